/-
  The walk of the law LadderMore.
-/
import Derived.Test.YtbceakhnnnfiaaaDLadderMore
import Derived.Test.YtbceakhnnnfiaaaWe
import Derived.Test.YtbceakhnnnfiaaaVc
import Derived.Test.YtbceakhnnnfiaaaVd
import Derived.Test.YtbceakhnnnfiaaaVe
import Derived.Test.YtbceakhnnnfiaaaVf
import Derived.Test.YtbceakhnnnfiaaaVg
import Derived.Test.YtbceakhnnnfiaaaVn
import Derived.Test.YtbceakhnnnfiaaaVs
namespace Go.Proofs.Ytbceakhnnnfiaaa
open Go Go.Abs Go.Kp
set_option maxRecDepth 100000
set_option maxHeartbeats 8000000
set_option linter.all false

theorem law09LadderMoreC {N : Nat} (hN : N ≤ 1073741824) {c1 : Ref09Cup} {which1 : Int} {who1 : Int} {r : Bool} (h : law09LadderMore N c1 which1 who1 = some r) :
    ACalls Try.prog 5 [.d (.agg [.int .u8 c1.fForm, I c1.fPlayers, I c1.fGames, .list 3 (List.map Ref09Result.enc c1.fResults)]), .d (.int .u8 which1), .d (.int .u8 who1)] [] fun e os => e = .ret (.d (.bool r)) ∧ os = [] := by
  refine acalls_f (fresh := false) tt_ok dr_ok ⟨[3], [], [], [], [22, 31, 1006, 1012, 1024, 1026], 0, [76]⟩ Try.func5 rfl Try.call5 rfl ?_
  unfold law09LadderMore at h
  obtain ⟨r6, hx6, h⟩ := obind h;(conv=>whnf);refine CallG.pure _ (law09ReadyC hN hx6) ?_;(conv=>whnf);refine Br.mk (fun hc2 => ?_) (fun hc2 => ?_)
  ·replace h := ite_t hc2 h;obtain ⟨r8, hx8, h⟩ := obind h;(conv=>whnf);refine CallG.pure _ (law09WakesC hN hx8) ?_;(conv=>whnf);cases h;exact rfl
  ·replace h := ite_f hc2 h;obtain ⟨r10, hx11, h⟩ := obind h;(conv=>whnf);refine CallG.pure _ (law09CupC hN hx11) ?_;obtain ⟨⟨ra2, rb2⟩, hx12, h⟩ := obind h;(conv=>whnf);refine CallG.pure _ (ladderMayWinC hN hx12) ?_;(conv=>whnf);intro b2;(conv=>whnf);refine sr ?_;(conv=>whnf);intro hd3;obtain ⟨l2, hx14, h⟩ := obind h;(conv=>whnf);refine sr ?_;(conv=>whnf);refine Side.mk ⟨rfl, rfl, rfl⟩ (Need.mk (app_need hN hx14 (by decide)) (Eqv.mk (List.map Ref09Result.enc l2) (app_map _ hx14) ?_));(conv=>whnf);intro hd4;(conv=>whnf);refine sr ?_;(conv=>whnf)
   refine SeqG.mk ((List Ref09Result) × Value) (fun y => [(1, .d (.int .u8 which1)), (7, .d (.list 1 (List.map I ra2))), (8, .d (I rb2)), (9, .ptr 9 b2 0)]) (fun y => [(9, .cells b2 [.d (.int .u8 c1.fForm), .d (I c1.fPlayers), .d (I c1.fGames), .sl 28 y.2]), (28, .arr y.2 45 3 false (List.map Ref09Result.enc y.1))]) (fun y => law09LadderMore_k3 N c1 which1 ra2 rb2 y.1 = some r) ?_ ?_
   ·(conv=>whnf);refine Need.mk (by decide) ?_;(conv=>whnf);refine Br.mk (fun hc45 => ?_) (fun hc45 => ?_)
    ·replace h := ite_t hc45 h;obtain ⟨r53, hx97, h⟩ := obind h;(conv=>whnf);refine CallG.pure _ (ref09NextC hN hx97) ?_;(conv=>whnf);refine LnA.mk _ (List.length_map _) ?_;(conv=>whnf);refine Br.mk (fun hc47 => ?_) (fun hc47 => ?_)
     ·replace h := ite_t hc47 h;obtain ⟨r57, hx101, h⟩ := obind h;(conv=>whnf);refine CallG.pure _ (law09WakesC hN hx101) ?_;(conv=>whnf);cases h;exact rfl
     ·replace h := ite_f hc47 h;(conv=>whnf);refine Need.mk (by decide) ?_;(conv=>whnf);refine LnA.mk _ (List.length_map _) ?_;obtain ⟨_, hx104, h⟩ := obind h;(conv=>whnf);refine Need.mk (nz_ne hx104) ?_;obtain ⟨x30, hx105, h⟩ := obind h;(conv=>whnf);refine Side.mk rfl ⟨_, idx_0 hx105, idx_map _ hx105, ?_⟩;(conv=>whnf);intro b7;(conv=>whnf);refine sr ?_;(conv=>whnf);refine sr ?_;obtain ⟨p2, hx106, h⟩ := obind h;(conv=>whnf)
      refine SeqG.mk Unit (fun y => [(1, .d (.int .u8 which1)), (3, .d (.ref (.agg [.int .u8 c1.fForm, I c1.fPlayers, I c1.fGames, .list 3 (List.map Ref09Result.enc c1.fResults)]))), (7, .d (.list 1 (List.map I ra2))), (8, .d (I rb2)), (9, .ptr 9 b2 0), (11, .ptr 11 b7 0), (12, .d (I p2))]) (fun y => [(9, .cells b2 [.d (.int .u8 c1.fForm), .d (I c1.fPlayers), .d (I c1.fGames), .sl 28 hd4]), (11, .cells b7 [.d (I x30.fNumber), .d (I x30.fFirst), .d (I x30.fSecond), .d (I x30.fWon), .d (I x30.fLost)]), (28, .arr hd4 45 3 false (List.map Ref09Result.enc l2))]) (fun _ => True) ?_ ?_
      ·(conv=>whnf);refine Need.mk (by decide) ?_;(conv=>whnf);refine Br.mk (fun hc49 => ?_) (fun hc49 => ?_)
       ·replace hx106 := ite_t hc49 hx106;(conv=>whnf);refine sr ?_;cases hx106;(conv=>whnf);refine ⟨(), trivial, Sub.eq rfl ?_ ?_⟩
        ·(repeat ((conv=>whnf);refine nr ?_));exact trivial
        ·(conv=>whnf);refine no ?_;(conv=>whnf);refine no ?_;(conv=>whnf);refine no ?_;exact trivial
       ·replace hx106 := ite_f hc49 hx106;cases hx106;(conv=>whnf);refine ⟨(), trivial, Sub.eq rfl ?_ ?_⟩
        ·(repeat ((conv=>whnf);refine nr ?_));exact trivial
        ·(conv=>whnf);refine no ?_;(conv=>whnf);refine no ?_;(conv=>whnf);refine no ?_;exact trivial
      ·rintro _ _;(conv=>whnf);refine sr ?_;obtain ⟨r59, hx108, h⟩ := obind h;(conv=>whnf);refine CallG.pure _ (ref09FindC hN hx108) ?_;(conv=>whnf);refine Br.mk (fun hc50 => ?_) (fun hc50 => ?_)
       ·replace h := ite_t hc50 h;obtain ⟨x31, hx109, h⟩ := obind h;obtain ⟨r60, hx110, h⟩ := obind h;obtain ⟨l6, hx111, h⟩ := obind h;(conv=>whnf);refine DrawG.mk (.take 0 (.take 1 (.take 2 (.take 3 (.take 4 (.take 5 (.take 6 (.take 7 (.take 8 (.take 10 (.alt 9 [10, 7, 6, 5, 4, 3, 2, 1, 0] (.alt 11 [7, 6, 5, 4, 3, 2, 1, 0] (.alt 12 [7, 6, 5, 4, 3, 2, 1, 0] (.take 13 (.take 14 (.alt 15 [13] .done .nil))) .nil) .nil) (.alt 11 [8, 7, 6, 5, 4, 3, 2, 1, 0] (.alt 9 [7, 6, 5, 4, 3, 2, 1, 0] (.alt 12 [7, 6, 5, 4, 3, 2, 1, 0] (.take 13 (.take 14 (.alt 15 [13] .done .nil))) .nil) .nil) .nil)))))))))))) (by kernel_rfl) ?_;(conv=>whnf);refine sr ?_;(conv=>whnf);refine sr ?_;(conv=>whnf);refine Side.mk ⟨rfl, rfl⟩ (Need.mk (idx_need _ hx109) ?_);(conv=>whnf);refine Side.mk ⟨rfl, rfl⟩ ⟨_, Int.natCast_nonneg _, idx_el _ hx109, ?_⟩;(conv=>whnf);refine Both.mk ?_ ?_
        ·(conv=>whnf);refine CallG.fresh 73 (law09ListC hN hx110) ?_;intro hd21;(conv=>whnf);refine nl ?_;(conv=>whnf);refine nl ?_;(conv=>whnf);refine Side.mk ⟨rfl, rfl⟩ (Need.mk (idx_need _ hx109) ?_);(conv=>whnf);refine nl ?_;(conv=>whnf);refine nl ?_;(conv=>whnf);refine sr ?_;(conv=>whnf);refine nl ?_;(conv=>whnf);refine nl ?_;(conv=>whnf);refine nl ?_;(conv=>whnf);refine sr ?_;(conv=>whnf);refine nl ?_;(conv=>whnf);refine nl ?_;(conv=>whnf);refine Both.mk ?_ trivial;(conv=>whnf);intro hd22;(conv=>whnf);refine nl ?_;(conv=>whnf);refine Side.mk ⟨rfl, rfl⟩ (Need.mk (idx_need _ hx109) ?_);(conv=>whnf);refine nl ?_;(conv=>whnf);refine nl ?_;(conv=>whnf);refine sr ?_;(conv=>whnf);refine nl ?_;(conv=>whnf);refine nl ?_;(conv=>whnf);refine nl ?_;(conv=>whnf);refine sr ?_;(conv=>whnf);refine nl ?_;(conv=>whnf);refine nl ?_;(conv=>whnf);refine Both.mk ?_ trivial;(conv=>whnf)
         refine Side.mk ⟨rfl, rfl⟩ ?_;(conv=>whnf);refine Side.mk ⟨rfl, rfl, rfl⟩ (Need.mk (app_need hN hx111 (by decide)) (Eqv.mk (List.map I l6) (app_map _ hx111) ?_));(conv=>whnf);intro hd23;(conv=>whnf);refine nl ?_;(conv=>whnf);refine Side.mk ⟨rfl, rfl⟩ (Need.mk (idx_need _ hx109) ?_);(conv=>whnf);refine nl ?_;(conv=>whnf);refine nl ?_;(conv=>whnf);refine sr ?_;(conv=>whnf);refine nl ?_;(conv=>whnf);refine nl ?_;(conv=>whnf);refine nl ?_;(conv=>whnf);refine sr ?_;(conv=>whnf);refine nl ?_;(conv=>whnf);refine nl ?_;(conv=>whnf);refine Side.mk ⟨rfl, rfl⟩ (Need.mk (idx_need _ hx109) ?_);(conv=>whnf);refine Both.mk ?_ trivial;(conv=>whnf);refine sr ?_;(conv=>whnf);refine Side.mk ⟨rfl, rfl⟩ ⟨_, Int.natCast_nonneg _, idx_el _ hx109, ?_⟩;(conv=>whnf);refine Eqv.mk (List.map Ref09Result.enc (List.set l2 (Int.toNat r59) (Ref09Result.mk x31.fMatch l6 x31.fProtested))) (set_map _ _ _ _ rfl) ?_
         (conv=>whnf);refine Side.mk ⟨rfl, rfl⟩ (Need.mk (idx_need_set _ hx109) ?_);(conv=>whnf);refine nl ?_;(conv=>whnf);refine ⟨((List.set l2 (Int.toNat r59) (Ref09Result.mk x31.fMatch l6 x31.fProtested)), hd4), h, Sub.eq rfl ?_ ?_⟩
         ·(repeat ((conv=>whnf);refine nr ?_));exact trivial
         ·(conv=>whnf);refine no ?_;(conv=>whnf);refine no ?_;exact trivial
        ·(conv=>whnf);refine Both.mk ?_ trivial;(conv=>whnf);intro hd24;(conv=>whnf);refine Side.mk ⟨rfl, rfl⟩ ⟨_, Int.natCast_nonneg _, idx_el _ hx109, ?_⟩;(conv=>whnf);refine nl ?_;(conv=>whnf);refine nl ?_;(conv=>whnf);refine Side.mk ⟨rfl, rfl⟩ (Need.mk (idx_need _ hx109) ?_);(conv=>whnf);refine nl ?_;(conv=>whnf);refine nl ?_;(conv=>whnf);refine sr ?_;(conv=>whnf);refine nl ?_;(conv=>whnf);refine nl ?_;(conv=>whnf);refine nl ?_;(conv=>whnf);refine sr ?_;(conv=>whnf);refine nl ?_;(conv=>whnf);refine nl ?_;(conv=>whnf);refine Both.mk ?_ trivial;(conv=>whnf);refine CallG.fresh 73 (law09ListC hN hx110) ?_;intro hd25;(conv=>whnf);refine nl ?_;(conv=>whnf);refine Side.mk ⟨rfl, rfl⟩ (Need.mk (idx_need _ hx109) ?_);(conv=>whnf);refine nl ?_;(conv=>whnf);refine nl ?_;(conv=>whnf);refine sr ?_;(conv=>whnf);refine nl ?_;(conv=>whnf);refine nl ?_;(conv=>whnf);refine nl ?_;(conv=>whnf)
         refine sr ?_;(conv=>whnf);refine nl ?_;(conv=>whnf);refine nl ?_;(conv=>whnf);refine Both.mk ?_ trivial;(conv=>whnf);refine Side.mk ⟨rfl, rfl⟩ ?_;(conv=>whnf);refine Side.mk ⟨rfl, rfl, rfl⟩ (Need.mk (app_need hN hx111 (by decide)) (Eqv.mk (List.map I l6) (app_map _ hx111) ?_));(conv=>whnf);intro hd26;(conv=>whnf);refine nl ?_;(conv=>whnf);refine Side.mk ⟨rfl, rfl⟩ (Need.mk (idx_need _ hx109) ?_);(conv=>whnf);refine nl ?_;(conv=>whnf);refine nl ?_;(conv=>whnf);refine sr ?_;(conv=>whnf);refine nl ?_;(conv=>whnf);refine nl ?_;(conv=>whnf);refine nl ?_;(conv=>whnf);refine sr ?_;(conv=>whnf);refine nl ?_;(conv=>whnf);refine nl ?_;(conv=>whnf);refine Side.mk ⟨rfl, rfl⟩ (Need.mk (idx_need _ hx109) ?_);(conv=>whnf);refine Both.mk ?_ trivial;(conv=>whnf);refine sr ?_;(conv=>whnf);refine Side.mk ⟨rfl, rfl⟩ ⟨_, Int.natCast_nonneg _, idx_el _ hx109, ?_⟩;(conv=>whnf)
         refine Eqv.mk (List.map Ref09Result.enc (List.set l2 (Int.toNat r59) (Ref09Result.mk x31.fMatch l6 x31.fProtested))) (set_map _ _ _ _ rfl) ?_;(conv=>whnf);refine Side.mk ⟨rfl, rfl⟩ (Need.mk (idx_need_set _ hx109) ?_);(conv=>whnf);refine nl ?_;(conv=>whnf);refine ⟨((List.set l2 (Int.toNat r59) (Ref09Result.mk x31.fMatch l6 x31.fProtested)), hd4), h, Sub.eq rfl ?_ ?_⟩
         ·(repeat ((conv=>whnf);refine nr ?_));exact trivial
         ·(conv=>whnf);refine no ?_;(conv=>whnf);refine no ?_;exact trivial
       ·replace h := ite_f hc50 h;(conv=>whnf);refine sr ?_;(conv=>whnf);refine sr ?_;(conv=>whnf);intro hd27;(conv=>whnf);refine sr ?_;(conv=>whnf);intro hd28;obtain ⟨l7, hx112, h⟩ := obind h;(conv=>whnf);refine Side.mk ⟨rfl, rfl⟩ ?_;(conv=>whnf);refine Side.mk ⟨rfl, rfl, rfl⟩ (Need.mk (app_need hN hx112 (by decide)) (Eqv.mk (List.map Ref09Result.enc l7) (app_map _ hx112) ?_));(conv=>whnf);intro hd29;(conv=>whnf);refine sr ?_;(conv=>whnf);refine ⟨(l7, hd29), h, Sub.eq rfl ?_ ?_⟩
        ·(repeat ((conv=>whnf);refine nr ?_));exact trivial
        ·(conv=>whnf);refine no ?_;(conv=>whnf);refine no ?_;exact trivial
    ·replace h := ite_f hc45 h;(conv=>whnf);refine sr ?_;(conv=>whnf);refine Side.mk rfl (LnA.mk _ (List.length_map _) ?_);(conv=>whnf);refine Br.mk (fun hc52 => ?_) (fun hc52 => ?_)
     ·replace h := ite_t hc52 h;obtain ⟨r64, hx116, h⟩ := obind h;(conv=>whnf);refine CallG.pure _ (law09WakesC hN hx116) ?_;(conv=>whnf);cases h;exact rfl
     ·replace h := ite_f hc52 h;obtain ⟨_, hx117, h⟩ := obind h;obtain ⟨x32, hx118, h⟩ := obind h;(conv=>whnf);refine DrawG.mk (.take 0 (.take 1 (.take 2 (.take 3 (.take 4 (.take 5 (.take 6 (.take 7 (.take 8 (.take 9 (.take 10 (.alt 11 [9] .done .nil)))))))))))) (by kernel_rfl) ?_;(conv=>whnf);refine sr ?_;(conv=>whnf);refine Need.mk (by decide) ?_;(conv=>whnf);refine sr ?_;(conv=>whnf);refine Side.mk rfl (LnA.mk _ (List.length_map _) ?_);(conv=>whnf);refine Need.mk (nz_ne hx117) ?_;(conv=>whnf);refine Side.mk ⟨rfl, rfl⟩ (Need.mk (idx_need _ hx118) ?_);(conv=>whnf);refine Both.mk ?_ trivial;(conv=>whnf);refine Side.mk ⟨rfl, rfl⟩ ⟨_, Int.natCast_nonneg _, idx_el _ hx118, ?_⟩;(conv=>whnf);refine Eqv.mk (List.map Ref09Result.enc (List.set l2 (Int.toNat (Int.tmod (w64 (Int.tdiv (w64 which1) 2)) (l2.length : Int))) (Ref09Result.mk x32.fMatch x32.fGames true))) (set_map _ _ _ _ rfl) ?_
      (conv=>whnf);refine Side.mk ⟨rfl, rfl⟩ (Need.mk (idx_need_set _ hx118) ?_);(conv=>whnf);refine nl ?_;(conv=>whnf);refine ⟨((List.set l2 (Int.toNat (Int.tmod (w64 (Int.tdiv (w64 which1) 2)) (l2.length : Int))) (Ref09Result.mk x32.fMatch x32.fGames true)), hd4), h, Sub.eq rfl ?_ ?_⟩
      ·(repeat ((conv=>whnf);refine nr ?_));exact trivial
      ·(conv=>whnf);refine no ?_;(conv=>whnf);refine no ?_;exact trivial
   ·clear h;rintro ⟨l5, hd17⟩ h;unfold law09LadderMore_k3 at h;(conv=>whnf);refine sr ?_;obtain ⟨r25, hx40, h⟩ := obind h;(conv=>whnf);refine sr ?_;(conv=>whnf);refine CallG.pure _ (law09CupC hN hx40) ?_;obtain ⟨⟨ra4, rb4⟩, hx41, h⟩ := obind h;(conv=>whnf);refine CallG.pure _ (ladderMayWinC hN hx41) ?_;obtain ⟨v2, hx43, h⟩ := obind h;(conv=>whnf);refine SeqG.mk Unit (fun y => [(1, .d (.int .u8 which1)), (7, .d (.list 1 (List.map I ra2))), (14, .d (.list 1 (List.map I ra4))), (116, .d (.bool v2))]) (fun y => []) (fun _ => True) ?_ ?_
    ·(conv=>whnf);refine Br.mk (fun hc15 => ?_) (fun hc15 => ?_)
     ·replace hx43 := ite_f hc15 hx43;cases hx43;(conv=>whnf);refine ⟨(), trivial, Sub.eq rfl ?_ ?_⟩
      ·(repeat ((conv=>whnf);refine nr ?_));exact trivial
      ·exact trivial
     ·replace hx43 := ite_t hc15 hx43;cases hx43;(conv=>whnf);refine ⟨(), trivial, Sub.eq rfl ?_ ?_⟩
      ·(repeat ((conv=>whnf);refine nr ?_));exact trivial
      ·exact trivial
    ·rintro _ _;(conv=>whnf);refine Br.mk (fun hc16 => ?_) (fun hc16 => ?_)
     ·replace h := ite_t hc16 h;(conv=>whnf);cases h;exact rfl
     ·replace h := ite_f hc16 h;obtain ⟨⟨a1, b5⟩, hx44, h⟩ := obind h;(conv=>whnf);refine SeqG.mk Unit (fun y => [(7, .d (.list 1 (List.map I a1))), (14, .d (.list 1 (List.map I b5)))]) (fun y => []) (fun _ => True) ?_ ?_
      ·(conv=>whnf);refine Need.mk (by decide) ?_;(conv=>whnf);refine Br.mk (fun hc18 => ?_) (fun hc18 => ?_)
       ·replace hx44 := ite_t hc18 hx44;cases hx44;(conv=>whnf);refine ⟨(), trivial, Sub.eq rfl ?_ ?_⟩
        ·(repeat ((conv=>whnf);refine nr ?_));exact trivial
        ·exact trivial
       ·replace hx44 := ite_f hc18 hx44;cases hx44;(conv=>whnf);refine ⟨(), trivial, Sub.eq rfl ?_ ?_⟩
        ·(repeat ((conv=>whnf);refine nr ?_));exact trivial
        ·exact trivial
      ·rintro _ _;(conv=>whnf);refine SeqG.mk Unit (fun y => [(14, .d (.list 1 (List.map I b5)))]) (fun y => []) (fun y => law09LadderMore_k1 N b5 = some r) ?_ ?_
       ·(conv=>whnf);refine LoopG.mk (Nat × Int) (fun y => [(7, .d (.list 1 (List.map I a1))), (14, .d (.list 1 (List.map I b5))), (16, .d (I y.2))]) (fun y => []) (fun y => loopN (fun rr x => law09LadderMore_b2 N a1 b5 rr x) y.1 y.2 = some r) (fun y => y.1) (N, 0) h (Sub.eq rfl ?_ ?_) ?_
        ·(repeat ((conv=>whnf);refine nr ?_));exact trivial
        ·exact trivial
        ·rintro ⟨n2, i8⟩ hl2;obtain ⟨n2, rfl, hl2⟩ := loopN_some hl2;replace hl2 : law09LadderMore_b2 N a1 b5 (loopN (fun rr x => law09LadderMore_b2 N a1 b5 rr x) n2) i8 = some r := hl2;rw [law09LadderMore_b2] at hl2;(conv=>whnf);refine LnA.mk _ (List.length_map _) ?_;(conv=>whnf);refine Br.mk (fun hc42 => ?_) (fun hc42 => ?_)
         ·replace hl2 := ite_t hc42 hl2;obtain ⟨x28, hx94, hl2⟩ := obind hl2;(conv=>whnf);refine Side.mk rfl ⟨_, idx_0 hx94, idx_map _ hx94, ?_⟩;obtain ⟨r51, hx95, hl2⟩ := obind hl2;(conv=>whnf);refine CallG.pure _ (law09HasC hN hx95) ?_;(conv=>whnf);refine Br.mk (fun hc44 => ?_) (fun hc44 => ?_)
          ·replace hl2 := ite_t hc44 hl2;(conv=>whnf);cases hl2;exact rfl
          ·replace hl2 := ite_f hc44 hl2;(conv=>whnf);refine ⟨(n2, w64 (i8 + 1)), hl2, Sub.eq rfl ?_ ?_, Nat.lt_succ_self _⟩
           ·(repeat ((conv=>whnf);refine nr ?_));exact trivial
           ·exact trivial
         ·replace hl2 := ite_f hc42 hl2;(conv=>whnf);refine ⟨(), hl2, Sub.eq rfl ?_ ?_⟩
          ·(repeat ((conv=>whnf);refine nr ?_));exact trivial
          ·exact trivial
       ·clear h;rintro _ h;unfold law09LadderMore_k1 at h;obtain ⟨v3, hx70, h⟩ := obind h;(conv=>whnf);refine SeqG.mk Unit (fun y => [(6, .d (.bool v3))]) (fun y => []) (fun _ => True) ?_ ?_
        ·(conv=>whnf);refine LnA.mk _ (List.length_map _) ?_;(conv=>whnf);refine Br.mk (fun hc32 => ?_) (fun hc32 => ?_)
         ·replace hx70 := ite_t hc32 hx70;obtain ⟨r39, hx71, hx70⟩ := obind hx70;(conv=>whnf);refine CallG.pure _ (law09WakesC hN hx71) ?_;cases hx70;(conv=>whnf);refine ⟨(), trivial, Sub.eq rfl ?_ ?_⟩
          ·(repeat ((conv=>whnf);refine nr ?_));exact trivial
          ·exact trivial
         ·replace hx70 := ite_f hc32 hx70;cases hx70;(conv=>whnf);refine ⟨(), trivial, Sub.eq rfl ?_ ?_⟩
          ·(repeat ((conv=>whnf);refine nr ?_));exact trivial
          ·exact trivial
        ·rintro _ _;(conv=>whnf);cases h;exact rfl
end Go.Proofs.Ytbceakhnnnfiaaa
