/-
  The walk of the law LadderTree.
-/
import Derived.Test.YtbceakhnnnfiaaaDLadderTree
import Derived.Test.YtbceakhnnnfiaaaWe
import Derived.Test.YtbceakhnnnfiaaaVc
import Derived.Test.YtbceakhnnnfiaaaVd
import Derived.Test.YtbceakhnnnfiaaaVf
import Derived.Test.YtbceakhnnnfiaaaVp
namespace Go.Proofs.Ytbceakhnnnfiaaa
open Go Go.Abs Go.Kp
set_option maxRecDepth 100000
set_option maxHeartbeats 8000000
set_option linter.all false

theorem law09LadderTreeC {N : Nat} (hN : N ≤ 1073741824) {c1 : Ref09Cup} {r : Bool} (h : law09LadderTree N c1 = some r) :
    ACalls Try.prog 9 [.d (.agg [.int .u8 c1.fForm, I c1.fPlayers, I c1.fGames, .list 3 (List.map Ref09Result.enc c1.fResults)])] [] fun e os => e = .ret (.d (.bool r)) ∧ os = [] := by
  refine acalls_f (fresh := false) tt_ok dr_ok ⟨[], [], [], [], [5, 13, 20, 21, 23, 24, 31, 34, 1010, 1018, 1028], 0, []⟩ Try.func9 rfl Try.call9 rfl ?_
  unfold law09LadderTree at h
  (conv=>whnf);intro b2;(conv=>whnf);refine sr ?_;(conv=>whnf);refine sr ?_;obtain ⟨r6, hx6, h⟩ := obind h;(conv=>whnf);refine CallG.pure _ (ref09IsFormC hN hx6) ?_;(conv=>whnf);refine Br.mk (fun hc2 => ?_) (fun hc2 => ?_)
  ·replace h := ite_t hc2 h;obtain ⟨r8, hx8, h⟩ := obind h;(conv=>whnf);refine CallG.pure _ (law09WakesC hN hx8) ?_;(conv=>whnf);cases h;exact rfl
  ·replace h := ite_f hc2 h;(conv=>whnf);refine sr ?_;obtain ⟨r10, hx11, h⟩ := obind h;(conv=>whnf);refine CallG.pure _ (law09CupC hN hx11) ?_;obtain ⟨⟨ra2, rb2⟩, hx12, h⟩ := obind h;(conv=>whnf);refine CallG.pure _ (ladderTreeC hN hx12) ?_;obtain ⟨v2, hx14, h⟩ := obind h;(conv=>whnf);refine SeqG.mk Unit (fun y => [(1, .ptr 1 b2 0), (3, .d (.list 4 (List.map LadderPair.enc ra2))), (36, .d (.bool v2))]) (fun y => [(1, .cells b2 [.d (.int .u8 c1.fForm), .d (I c1.fPlayers), .d (I c1.fGames), .nils 3])]) (fun _ => True) ?_ ?_
   ·(conv=>whnf);refine Br.mk (fun hc7 => ?_) (fun hc7 => ?_)
    ·replace hx14 := ite_f hc7 hx14;(conv=>whnf);refine LnA.mk _ (List.length_map _) ?_;(conv=>whnf);refine sr ?_;cases hx14;(conv=>whnf);refine ⟨(), trivial, Sub.eq rfl ?_ ?_⟩
     ·(repeat ((conv=>whnf);refine nr ?_));exact trivial
     ·(conv=>whnf);refine no ?_;exact trivial
    ·replace hx14 := ite_t hc7 hx14;cases hx14;(conv=>whnf);refine ⟨(), trivial, Sub.eq rfl ?_ ?_⟩
     ·(repeat ((conv=>whnf);refine nr ?_));exact trivial
     ·(conv=>whnf);refine no ?_;exact trivial
   ·rintro _ _;(conv=>whnf);refine Br.mk (fun hc8 => ?_) (fun hc8 => ?_)
    ·replace h := ite_t hc8 h;(conv=>whnf);cases h;exact rfl
    ·replace h := ite_f hc8 h;(conv=>whnf);intro b5;(conv=>whnf);intro b6;(conv=>whnf)
     refine SeqG.mk (Int × (Ar16 Int) × (Ar16 Int) × (List Int) × Value) (fun y => [(1, .ptr 1 b2 0), (3, .d (.list 4 (List.map LadderPair.enc ra2))), (5, .ptr 5 b5 0), (6, .ptr 6 b6 0), (7, .sl 122 y.2.2.2.2), (8, .d (I y.1))]) (fun y => [(1, .cells b2 [.d (.int .u8 c1.fForm), .d (I c1.fPlayers), .d (I c1.fGames), .nils 3]), (5, .cells b5 [.d (I y.2.1.a0), .d (I y.2.1.a1), .d (I y.2.1.a2), .d (I y.2.1.a3), .d (I y.2.1.a4), .d (I y.2.1.a5), .d (I y.2.1.a6), .d (I y.2.1.a7), .d (I y.2.1.a8), .d (I y.2.1.a9), .d (I y.2.1.a10), .d (I y.2.1.a11), .d (I y.2.1.a12), .d (I y.2.1.a13), .d (I y.2.1.a14), .d (I y.2.1.a15)]), (6, .cells b6 [.d (I y.2.2.1.a0), .d (I y.2.2.1.a1), .d (I y.2.2.1.a2), .d (I y.2.2.1.a3), .d (I y.2.2.1.a4), .d (I y.2.2.1.a5), .d (I y.2.2.1.a6), .d (I y.2.2.1.a7), .d (I y.2.2.1.a8), .d (I y.2.2.1.a9), .d (I y.2.2.1.a10), .d (I y.2.2.1.a11), .d (I y.2.2.1.a12), .d (I y.2.2.1.a13), .d (I y.2.2.1.a14), .d (I y.2.2.1.a15)]), (122, .arr y.2.2.2.2 3 1 false (List.map I y.2.2.2.1))]) (fun y => law09LadderTree_k3 N c1 ra2 y.1 y.2.1 y.2.2.1 y.2.2.2.1 = some r) ?_ ?_
     ·(conv=>whnf)
      refine LoopG.mk (Nat × (Int × Int × (Ar16 Int) × (Ar16 Int) × (List Int)) × Value) (fun y => [(1, .ptr 1 b2 0), (3, .d (.list 4 (List.map LadderPair.enc ra2))), (5, .ptr 5 b5 0), (6, .ptr 6 b6 0), (7, .sl 122 y.2.2), (8, .d (I y.2.1.1)), (9, .d (I y.2.1.2.1))]) (fun y => [(1, .cells b2 [.d (.int .u8 c1.fForm), .d (I c1.fPlayers), .d (I c1.fGames), .nils 3]), (5, .cells b5 [.d (I y.2.1.2.2.1.a0), .d (I y.2.1.2.2.1.a1), .d (I y.2.1.2.2.1.a2), .d (I y.2.1.2.2.1.a3), .d (I y.2.1.2.2.1.a4), .d (I y.2.1.2.2.1.a5), .d (I y.2.1.2.2.1.a6), .d (I y.2.1.2.2.1.a7), .d (I y.2.1.2.2.1.a8), .d (I y.2.1.2.2.1.a9), .d (I y.2.1.2.2.1.a10), .d (I y.2.1.2.2.1.a11), .d (I y.2.1.2.2.1.a12), .d (I y.2.1.2.2.1.a13), .d (I y.2.1.2.2.1.a14), .d (I y.2.1.2.2.1.a15)]), (6, .cells b6 [.d (I y.2.1.2.2.2.1.a0), .d (I y.2.1.2.2.2.1.a1), .d (I y.2.1.2.2.2.1.a2), .d (I y.2.1.2.2.2.1.a3), .d (I y.2.1.2.2.2.1.a4), .d (I y.2.1.2.2.2.1.a5), .d (I y.2.1.2.2.2.1.a6), .d (I y.2.1.2.2.2.1.a7), .d (I y.2.1.2.2.2.1.a8), .d (I y.2.1.2.2.2.1.a9), .d (I y.2.1.2.2.2.1.a10), .d (I y.2.1.2.2.2.1.a11), .d (I y.2.1.2.2.2.1.a12), .d (I y.2.1.2.2.2.1.a13), .d (I y.2.1.2.2.2.1.a14), .d (I y.2.1.2.2.2.1.a15)]), (122, .arr y.2.2 3 1 false (List.map I y.2.1.2.2.2.2))]) (fun y => loopN (fun rr x => law09LadderTree_b6 N c1 ra2 rr x.1 x.2.1 x.2.2.1 x.2.2.2.1 x.2.2.2.2) y.1 y.2.1 = some r) (fun y => y.1) (N, (0, 0, (Ar16.mk 0 0 0 0 0 0 0 0 0 0 0 0 0 0 0 0), (Ar16.mk 0 0 0 0 0 0 0 0 0 0 0 0 0 0 0 0), []), (.slice none 0 0)) h (Sub.eq rfl ?_ ?_) ?_
      ·(repeat ((conv=>whnf);refine nr ?_));exact trivial
      ·(conv=>whnf);refine no ?_;(conv=>whnf);refine no ?_;(conv=>whnf);refine no ?_;(conv=>whnf);refine Need.mk (OLe.nil _ _ _ _) ?_;exact trivial
      ·rintro ⟨n12, ⟨meet9, n11, players129, matches129, l29⟩, hd49⟩ hl4;obtain ⟨n12, rfl, hl4⟩ := loopN_some hl4;replace hl4 : law09LadderTree_b6 N c1 ra2 (loopN (fun rr x => law09LadderTree_b6 N c1 ra2 rr x.1 x.2.1 x.2.2.1 x.2.2.2.1 x.2.2.2.2) n12) meet9 n11 players129 matches129 l29 = some r := hl4;rw [law09LadderTree_b6] at hl4;(conv=>whnf);refine LnA.mk _ (List.length_map _) ?_;(conv=>whnf);refine Br.mk (fun hc6756 => ?_) (fun hc6756 => ?_)
       ·replace hl4 := ite_t hc6756 hl4;obtain ⟨both12, hx532, hl4⟩ := obind hl4;(conv=>whnf)
        refine SeqG.mk Nat (fun y => [(1, .ptr 1 b2 0), (3, .d (.list 4 (List.map LadderPair.enc ra2))), (5, .ptr 5 b5 0), (6, .ptr 6 b6 0), (7, .sl 122 hd49), (9, .d (I n11)), (10, .ptr 10 y 0)]) (fun y => [(1, .cells b2 [.d (.int .u8 c1.fForm), .d (I c1.fPlayers), .d (I c1.fGames), .nils 3]), (5, .cells b5 [.d (I players129.a0), .d (I players129.a1), .d (I players129.a2), .d (I players129.a3), .d (I players129.a4), .d (I players129.a5), .d (I players129.a6), .d (I players129.a7), .d (I players129.a8), .d (I players129.a9), .d (I players129.a10), .d (I players129.a11), .d (I players129.a12), .d (I players129.a13), .d (I players129.a14), .d (I players129.a15)]), (6, .cells b6 [.d (I matches129.a0), .d (I matches129.a1), .d (I matches129.a2), .d (I matches129.a3), .d (I matches129.a4), .d (I matches129.a5), .d (I matches129.a6), .d (I matches129.a7), .d (I matches129.a8), .d (I matches129.a9), .d (I matches129.a10), .d (I matches129.a11), .d (I matches129.a12), .d (I matches129.a13), .d (I matches129.a14), .d (I matches129.a15)]), (122, .arr hd49 3 1 false (List.map I l29)), (10, .cells y [.d (I both12.a0.fPlayer), .d (I both12.a0.fMatch), .d (I both12.a1.fPlayer), .d (I both12.a1.fMatch)])]) (fun _ => True) ?_ ?_
        ·obtain ⟨x116, hx533, hx532⟩ := obind hx532;(conv=>whnf);refine DrawG.mk (.take 0 (.take 1 (.take 2 (.take 3 (.take 4 (.take 5 (.take 6 (.take 7 (.take 8 (.take 9 (.alt 10 [8, 7, 6, 5, 3, 2, 1, 0] (.alt 11 [8, 7, 6, 5, 3, 2, 1, 0] (.alt 12 [] .done .nil) .nil) (.alt 11 [9, 8, 7, 6, 5, 4, 3, 2, 1, 0] (.alt 10 [8, 7, 6, 5, 3, 2, 1, 0] (.alt 12 [] .done .nil) .nil) .nil)))))))))))) (by kernel_rfl) ?_;(conv=>whnf);refine Side.mk rfl ⟨_, idx_0 hx533, idx_map _ hx533, ?_⟩;(conv=>whnf);refine Side.mk rfl ⟨_, idx_0 hx533, idx_map _ hx533, ?_⟩;(conv=>whnf);refine Both.mk ?_ ?_
         ·(conv=>whnf);refine nl ?_;(conv=>whnf);refine Side.mk rfl ⟨_, idx_0 hx533, idx_map _ hx533, ?_⟩;(conv=>whnf);refine nl ?_;(conv=>whnf);refine nl ?_;(conv=>whnf);refine nl ?_;(conv=>whnf);refine nl ?_;(conv=>whnf);refine Side.mk rfl ⟨_, idx_0 hx533, idx_map _ hx533, ?_⟩;(conv=>whnf);refine nl ?_;(conv=>whnf);refine nl ?_;(conv=>whnf);refine nl ?_;(conv=>whnf);refine Both.mk ?_ trivial;(conv=>whnf);intro b277;(conv=>whnf);refine nl ?_;(conv=>whnf);refine Side.mk rfl ⟨_, idx_0 hx533, idx_map _ hx533, ?_⟩;(conv=>whnf);refine nl ?_;(conv=>whnf);refine nl ?_;(conv=>whnf);refine nl ?_;(conv=>whnf);refine nl ?_;(conv=>whnf);refine Side.mk rfl ⟨_, idx_0 hx533, idx_map _ hx533, ?_⟩;(conv=>whnf);refine nl ?_;(conv=>whnf);refine nl ?_;(conv=>whnf);refine nl ?_;(conv=>whnf);refine Both.mk ?_ trivial;(conv=>whnf);refine sr ?_;cases hx532;(conv=>whnf);refine ⟨b277, trivial, Sub.eq rfl ?_ ?_⟩
          ·(repeat ((conv=>whnf);refine nr ?_));exact trivial
          ·(conv=>whnf);refine no ?_;(conv=>whnf);refine no ?_;(conv=>whnf);refine no ?_;(conv=>whnf);refine no ?_;(conv=>whnf);refine no ?_;exact trivial
         ·(conv=>whnf);refine Both.mk ?_ trivial;(conv=>whnf);intro b278;(conv=>whnf);refine nl ?_;(conv=>whnf);refine nl ?_;(conv=>whnf);refine Side.mk rfl ⟨_, idx_0 hx533, idx_map _ hx533, ?_⟩;(conv=>whnf);refine nl ?_;(conv=>whnf);refine nl ?_;(conv=>whnf);refine nl ?_;(conv=>whnf);refine nl ?_;(conv=>whnf);refine nl ?_;(conv=>whnf);refine Side.mk rfl ⟨_, idx_0 hx533, idx_map _ hx533, ?_⟩;(conv=>whnf);refine nl ?_;(conv=>whnf);refine nl ?_;(conv=>whnf);refine nl ?_;(conv=>whnf);refine Both.mk ?_ trivial;(conv=>whnf);refine nl ?_;(conv=>whnf);refine Side.mk rfl ⟨_, idx_0 hx533, idx_map _ hx533, ?_⟩;(conv=>whnf);refine nl ?_;(conv=>whnf);refine nl ?_;(conv=>whnf);refine nl ?_;(conv=>whnf);refine nl ?_;(conv=>whnf);refine Side.mk rfl ⟨_, idx_0 hx533, idx_map _ hx533, ?_⟩;(conv=>whnf);refine nl ?_;(conv=>whnf);refine nl ?_;(conv=>whnf);refine nl ?_;(conv=>whnf);refine Both.mk ?_ trivial
          (conv=>whnf);refine sr ?_;cases hx532;(conv=>whnf);refine ⟨b278, trivial, Sub.eq rfl ?_ ?_⟩
          ·(repeat ((conv=>whnf);refine nr ?_));exact trivial
          ·(conv=>whnf);refine no ?_;(conv=>whnf);refine no ?_;(conv=>whnf);refine no ?_;(conv=>whnf);refine no ?_;(conv=>whnf);refine no ?_;exact trivial
        ·rintro bb12 _;(conv=>whnf);intro b280;(conv=>whnf);refine LoopG.unr 3 ?_;(conv=>whnf)
         refine SeqG.mk ((Ar16 Int) × (Ar16 Int) × (Ar2 Int)) (fun y => [(1, .ptr 1 b2 0), (3, .d (.list 4 (List.map LadderPair.enc ra2))), (5, .ptr 5 b5 0), (6, .ptr 6 b6 0), (7, .sl 122 hd49), (9, .d (I n11)), (10, .ptr 10 bb12 0), (11, .ptr 11 b280 0), (12, .i .i64 0)]) (fun y => [(1, .cells b2 [.d (.int .u8 c1.fForm), .d (I c1.fPlayers), .d (I c1.fGames), .nils 3]), (5, .cells b5 [.d (I y.1.a0), .d (I y.1.a1), .d (I y.1.a2), .d (I y.1.a3), .d (I y.1.a4), .d (I y.1.a5), .d (I y.1.a6), .d (I y.1.a7), .d (I y.1.a8), .d (I y.1.a9), .d (I y.1.a10), .d (I y.1.a11), .d (I y.1.a12), .d (I y.1.a13), .d (I y.1.a14), .d (I y.1.a15)]), (6, .cells b6 [.d (I y.2.1.a0), .d (I y.2.1.a1), .d (I y.2.1.a2), .d (I y.2.1.a3), .d (I y.2.1.a4), .d (I y.2.1.a5), .d (I y.2.1.a6), .d (I y.2.1.a7), .d (I y.2.1.a8), .d (I y.2.1.a9), .d (I y.2.1.a10), .d (I y.2.1.a11), .d (I y.2.1.a12), .d (I y.2.1.a13), .d (I y.2.1.a14), .d (I y.2.1.a15)]), (122, .arr hd49 3 1 false (List.map I l29)), (10, .cells bb12 [.d (I both12.a0.fPlayer), .d (I both12.a0.fMatch), .d (I both12.a1.fPlayer), .d (I both12.a1.fMatch)]), (11, .cells b280 [.d (I y.2.2.a0), .d (I y.2.2.a1)])]) (fun y => law09LadderTree_k5 N c1 n11 l29 (loopN (fun rr x => law09LadderTree_b6 N c1 ra2 rr x.1 x.2.1 x.2.2.1 x.2.2.2.1 x.2.2.2.2) n12) both12 y.1 y.2.1 y.2.2 = some r) ?_ ?_
         ·(conv=>whnf);refine IxG.mk 0 rfl (by decide) ?_;(conv=>whnf);refine sr ?_;(conv=>whnf);intro b296;(conv=>whnf);refine sr ?_;obtain ⟨v206, hx571, hl4⟩ := obind hl4;(conv=>whnf)
          refine SeqG.mk Unit (fun y => [(1, .ptr 1 b2 0), (3, .d (.list 4 (List.map LadderPair.enc ra2))), (5, .ptr 5 b5 0), (6, .ptr 6 b6 0), (7, .sl 122 hd49), (9, .d (I n11)), (10, .ptr 10 bb12 0), (11, .ptr 11 b280 0), (12, .i .i64 0), (13, .ptr 13 b296 0), (61, .d (.bool v206))]) (fun y => [(1, .cells b2 [.d (.int .u8 c1.fForm), .d (I c1.fPlayers), .d (I c1.fGames), .nils 3]), (5, .cells b5 [.d (I players129.a0), .d (I players129.a1), .d (I players129.a2), .d (I players129.a3), .d (I players129.a4), .d (I players129.a5), .d (I players129.a6), .d (I players129.a7), .d (I players129.a8), .d (I players129.a9), .d (I players129.a10), .d (I players129.a11), .d (I players129.a12), .d (I players129.a13), .d (I players129.a14), .d (I players129.a15)]), (6, .cells b6 [.d (I matches129.a0), .d (I matches129.a1), .d (I matches129.a2), .d (I matches129.a3), .d (I matches129.a4), .d (I matches129.a5), .d (I matches129.a6), .d (I matches129.a7), .d (I matches129.a8), .d (I matches129.a9), .d (I matches129.a10), .d (I matches129.a11), .d (I matches129.a12), .d (I matches129.a13), .d (I matches129.a14), .d (I matches129.a15)]), (122, .arr hd49 3 1 false (List.map I l29)), (10, .cells bb12 [.d (I both12.a0.fPlayer), .d (I both12.a0.fMatch), .d (I both12.a1.fPlayer), .d (I both12.a1.fMatch)]), (11, .cells b280 [.d (I 0), .d (I 0)]), (13, .cells b296 [.d (I both12.a0.fPlayer), .d (I both12.a0.fMatch)])]) (fun _ => True) ?_ ?_
          ·(conv=>whnf);refine sr ?_;(conv=>whnf);refine Br.mk (fun hc7869 => ?_) (fun hc7869 => ?_)
           ·replace hx571 := ite_t hc7869 hx571;(conv=>whnf);refine sr ?_;(conv=>whnf);refine Br.mk (fun hc7870 => ?_) (fun hc7870 => ?_)
            ·replace hx571 := ite_t hc7870 hx571;(conv=>whnf);refine sr ?_;(conv=>whnf);refine sr ?_;cases hx571;(conv=>whnf);refine ⟨(), trivial, Sub.eq rfl ?_ ?_⟩
             ·(repeat ((conv=>whnf);refine nr ?_));exact trivial
             ·(conv=>whnf);refine no ?_;(conv=>whnf);refine no ?_;(conv=>whnf);refine no ?_;(conv=>whnf);refine no ?_;(conv=>whnf);refine no ?_;(conv=>whnf);refine no ?_;(conv=>whnf);refine no ?_;exact trivial
            ·replace hx571 := ite_f hc7870 hx571;cases hx571;(conv=>whnf);refine ⟨(), trivial, Sub.eq rfl ?_ ?_⟩
             ·(repeat ((conv=>whnf);refine nr ?_));exact trivial
             ·(conv=>whnf);refine no ?_;(conv=>whnf);refine no ?_;(conv=>whnf);refine no ?_;(conv=>whnf);refine no ?_;(conv=>whnf);refine no ?_;(conv=>whnf);refine no ?_;(conv=>whnf);refine no ?_;exact trivial
           ·replace hx571 := ite_f hc7869 hx571;cases hx571;(conv=>whnf);refine ⟨(), trivial, Sub.eq rfl ?_ ?_⟩
            ·(repeat ((conv=>whnf);refine nr ?_));exact trivial
            ·(conv=>whnf);refine no ?_;(conv=>whnf);refine no ?_;(conv=>whnf);refine no ?_;(conv=>whnf);refine no ?_;(conv=>whnf);refine no ?_;(conv=>whnf);refine no ?_;(conv=>whnf);refine no ?_;exact trivial
          ·rintro _ _;(conv=>whnf);refine Br.mk (fun hc7871 => ?_) (fun hc7871 => ?_)
           ·replace hl4 := ite_t hc7871 hl4;obtain ⟨players153, hx572, hl4⟩ := obind hl4;(conv=>whnf)
            refine SeqG.mk Unit (fun y => [(1, .ptr 1 b2 0), (3, .d (.list 4 (List.map LadderPair.enc ra2))), (5, .ptr 5 b5 0), (6, .ptr 6 b6 0), (7, .sl 122 hd49), (9, .d (I n11)), (10, .ptr 10 bb12 0), (11, .ptr 11 b280 0), (12, .i .i64 0), (13, .ptr 13 b296 0)]) (fun y => [(1, .cells b2 [.d (.int .u8 c1.fForm), .d (I c1.fPlayers), .d (I c1.fGames), .nils 3]), (5, .cells b5 [.d (I players153.a0), .d (I players153.a1), .d (I players153.a2), .d (I players153.a3), .d (I players153.a4), .d (I players153.a5), .d (I players153.a6), .d (I players153.a7), .d (I players153.a8), .d (I players153.a9), .d (I players153.a10), .d (I players153.a11), .d (I players153.a12), .d (I players153.a13), .d (I players153.a14), .d (I players153.a15)]), (6, .cells b6 [.d (I matches129.a0), .d (I matches129.a1), .d (I matches129.a2), .d (I matches129.a3), .d (I matches129.a4), .d (I matches129.a5), .d (I matches129.a6), .d (I matches129.a7), .d (I matches129.a8), .d (I matches129.a9), .d (I matches129.a10), .d (I matches129.a11), .d (I matches129.a12), .d (I matches129.a13), .d (I matches129.a14), .d (I matches129.a15)]), (122, .arr hd49 3 1 false (List.map I l29)), (10, .cells bb12 [.d (I both12.a0.fPlayer), .d (I both12.a0.fMatch), .d (I both12.a1.fPlayer), .d (I both12.a1.fMatch)]), (11, .cells b280 [.d (I 0), .d (I 0)]), (13, .cells b296 [.d (I both12.a0.fPlayer), .d (I both12.a0.fMatch)])]) (fun _ => True) ?_ ?_
            ·(conv=>whnf);refine sr ?_;rcases bcases (decide (both12.a0.fPlayer = 0)) with hc7888 | hc7888
             ·replace hx572 := ite_t hc7888 hx572;(conv=>whnf);refine IxG.mk 0 (of_decide_eq_true hc7888) (by decide) ?_;(conv=>whnf);refine sr ?_;(conv=>whnf);refine IxG.mk 0 (of_decide_eq_true hc7888) (by decide) ?_;(conv=>whnf);refine sr ?_;cases hx572;(conv=>whnf);refine ⟨(), trivial, Sub.eq rfl ?_ ?_⟩
              ·(repeat ((conv=>whnf);refine nr ?_));exact trivial
              ·(conv=>whnf);refine no ?_;(conv=>whnf);refine no ?_;(conv=>whnf);refine no ?_;(conv=>whnf);refine no ?_;(conv=>whnf);refine no ?_;(conv=>whnf);refine no ?_;(conv=>whnf);refine no ?_;exact trivial
             ·replace hx572 := ite_f hc7888 hx572;rcases bcases (decide (both12.a0.fPlayer = 1)) with hc7889 | hc7889
              ·replace hx572 := ite_t hc7889 hx572;(conv=>whnf);refine IxG.mk 1 (of_decide_eq_true hc7889) (by decide) ?_;(conv=>whnf);refine sr ?_;(conv=>whnf);refine IxG.mk 1 (of_decide_eq_true hc7889) (by decide) ?_;(conv=>whnf);refine sr ?_;cases hx572;(conv=>whnf);refine ⟨(), trivial, Sub.eq rfl ?_ ?_⟩
               ·(repeat ((conv=>whnf);refine nr ?_));exact trivial
               ·(conv=>whnf);refine no ?_;(conv=>whnf);refine no ?_;(conv=>whnf);refine no ?_;(conv=>whnf);refine no ?_;(conv=>whnf);refine no ?_;(conv=>whnf);refine no ?_;(conv=>whnf);refine no ?_;exact trivial
              ·replace hx572 := ite_f hc7889 hx572;rcases bcases (decide (both12.a0.fPlayer = 2)) with hc7890 | hc7890
               ·replace hx572 := ite_t hc7890 hx572;(conv=>whnf);refine IxG.mk 2 (of_decide_eq_true hc7890) (by decide) ?_;(conv=>whnf);refine sr ?_;(conv=>whnf);refine IxG.mk 2 (of_decide_eq_true hc7890) (by decide) ?_;(conv=>whnf);refine sr ?_;cases hx572;(conv=>whnf);refine ⟨(), trivial, Sub.eq rfl ?_ ?_⟩
                ·(repeat ((conv=>whnf);refine nr ?_));exact trivial
                ·(conv=>whnf);refine no ?_;(conv=>whnf);refine no ?_;(conv=>whnf);refine no ?_;(conv=>whnf);refine no ?_;(conv=>whnf);refine no ?_;(conv=>whnf);refine no ?_;(conv=>whnf);refine no ?_;exact trivial
               ·replace hx572 := ite_f hc7890 hx572;rcases bcases (decide (both12.a0.fPlayer = 3)) with hc7891 | hc7891
                ·replace hx572 := ite_t hc7891 hx572;(conv=>whnf);refine IxG.mk 3 (of_decide_eq_true hc7891) (by decide) ?_;(conv=>whnf);refine sr ?_;(conv=>whnf);refine IxG.mk 3 (of_decide_eq_true hc7891) (by decide) ?_;(conv=>whnf);refine sr ?_;cases hx572;(conv=>whnf);refine ⟨(), trivial, Sub.eq rfl ?_ ?_⟩
                 ·(repeat ((conv=>whnf);refine nr ?_));exact trivial
                 ·(conv=>whnf);refine no ?_;(conv=>whnf);refine no ?_;(conv=>whnf);refine no ?_;(conv=>whnf);refine no ?_;(conv=>whnf);refine no ?_;(conv=>whnf);refine no ?_;(conv=>whnf);refine no ?_;exact trivial
                ·replace hx572 := ite_f hc7891 hx572;rcases bcases (decide (both12.a0.fPlayer = 4)) with hc7892 | hc7892
                 ·replace hx572 := ite_t hc7892 hx572;(conv=>whnf);refine IxG.mk 4 (of_decide_eq_true hc7892) (by decide) ?_;(conv=>whnf);refine sr ?_;(conv=>whnf);refine IxG.mk 4 (of_decide_eq_true hc7892) (by decide) ?_;(conv=>whnf);refine sr ?_;cases hx572;(conv=>whnf);refine ⟨(), trivial, Sub.eq rfl ?_ ?_⟩
                  ·(repeat ((conv=>whnf);refine nr ?_));exact trivial
                  ·(conv=>whnf);refine no ?_;(conv=>whnf);refine no ?_;(conv=>whnf);refine no ?_;(conv=>whnf);refine no ?_;(conv=>whnf);refine no ?_;(conv=>whnf);refine no ?_;(conv=>whnf);refine no ?_;exact trivial
                 ·replace hx572 := ite_f hc7892 hx572;rcases bcases (decide (both12.a0.fPlayer = 5)) with hc7893 | hc7893
                  ·replace hx572 := ite_t hc7893 hx572;(conv=>whnf);refine IxG.mk 5 (of_decide_eq_true hc7893) (by decide) ?_;(conv=>whnf);refine sr ?_;(conv=>whnf);refine IxG.mk 5 (of_decide_eq_true hc7893) (by decide) ?_;(conv=>whnf);refine sr ?_;cases hx572;(conv=>whnf);refine ⟨(), trivial, Sub.eq rfl ?_ ?_⟩
                   ·(repeat ((conv=>whnf);refine nr ?_));exact trivial
                   ·(conv=>whnf);refine no ?_;(conv=>whnf);refine no ?_;(conv=>whnf);refine no ?_;(conv=>whnf);refine no ?_;(conv=>whnf);refine no ?_;(conv=>whnf);refine no ?_;(conv=>whnf);refine no ?_;exact trivial
                  ·replace hx572 := ite_f hc7893 hx572;rcases bcases (decide (both12.a0.fPlayer = 6)) with hc7894 | hc7894
                   ·replace hx572 := ite_t hc7894 hx572;(conv=>whnf);refine IxG.mk 6 (of_decide_eq_true hc7894) (by decide) ?_;(conv=>whnf);refine sr ?_;(conv=>whnf);refine IxG.mk 6 (of_decide_eq_true hc7894) (by decide) ?_;(conv=>whnf);refine sr ?_;cases hx572;(conv=>whnf);refine ⟨(), trivial, Sub.eq rfl ?_ ?_⟩
                    ·(repeat ((conv=>whnf);refine nr ?_));exact trivial
                    ·(conv=>whnf);refine no ?_;(conv=>whnf);refine no ?_;(conv=>whnf);refine no ?_;(conv=>whnf);refine no ?_;(conv=>whnf);refine no ?_;(conv=>whnf);refine no ?_;(conv=>whnf);refine no ?_;exact trivial
                   ·replace hx572 := ite_f hc7894 hx572;rcases bcases (decide (both12.a0.fPlayer = 7)) with hc7895 | hc7895
                    ·replace hx572 := ite_t hc7895 hx572;(conv=>whnf);refine IxG.mk 7 (of_decide_eq_true hc7895) (by decide) ?_;(conv=>whnf);refine sr ?_;(conv=>whnf);refine IxG.mk 7 (of_decide_eq_true hc7895) (by decide) ?_;(conv=>whnf);refine sr ?_;cases hx572;(conv=>whnf);refine ⟨(), trivial, Sub.eq rfl ?_ ?_⟩
                     ·(repeat ((conv=>whnf);refine nr ?_));exact trivial
                     ·(conv=>whnf);refine no ?_;(conv=>whnf);refine no ?_;(conv=>whnf);refine no ?_;(conv=>whnf);refine no ?_;(conv=>whnf);refine no ?_;(conv=>whnf);refine no ?_;(conv=>whnf);refine no ?_;exact trivial
                    ·replace hx572 := ite_f hc7895 hx572;rcases bcases (decide (both12.a0.fPlayer = 8)) with hc7896 | hc7896
                     ·replace hx572 := ite_t hc7896 hx572;(conv=>whnf);refine IxG.mk 8 (of_decide_eq_true hc7896) (by decide) ?_;(conv=>whnf);refine sr ?_;(conv=>whnf);refine IxG.mk 8 (of_decide_eq_true hc7896) (by decide) ?_;(conv=>whnf);refine sr ?_;cases hx572;(conv=>whnf);refine ⟨(), trivial, Sub.eq rfl ?_ ?_⟩
                      ·(repeat ((conv=>whnf);refine nr ?_));exact trivial
                      ·(conv=>whnf);refine no ?_;(conv=>whnf);refine no ?_;(conv=>whnf);refine no ?_;(conv=>whnf);refine no ?_;(conv=>whnf);refine no ?_;(conv=>whnf);refine no ?_;(conv=>whnf);refine no ?_;exact trivial
                     ·replace hx572 := ite_f hc7896 hx572;rcases bcases (decide (both12.a0.fPlayer = 9)) with hc7897 | hc7897
                      ·replace hx572 := ite_t hc7897 hx572;(conv=>whnf);refine IxG.mk 9 (of_decide_eq_true hc7897) (by decide) ?_;(conv=>whnf);refine sr ?_;(conv=>whnf);refine IxG.mk 9 (of_decide_eq_true hc7897) (by decide) ?_;(conv=>whnf);refine sr ?_;cases hx572;(conv=>whnf);refine ⟨(), trivial, Sub.eq rfl ?_ ?_⟩
                       ·(repeat ((conv=>whnf);refine nr ?_));exact trivial
                       ·(conv=>whnf);refine no ?_;(conv=>whnf);refine no ?_;(conv=>whnf);refine no ?_;(conv=>whnf);refine no ?_;(conv=>whnf);refine no ?_;(conv=>whnf);refine no ?_;(conv=>whnf);refine no ?_;exact trivial
                      ·replace hx572 := ite_f hc7897 hx572;rcases bcases (decide (both12.a0.fPlayer = 10)) with hc7898 | hc7898
                       ·replace hx572 := ite_t hc7898 hx572;(conv=>whnf);refine IxG.mk 10 (of_decide_eq_true hc7898) (by decide) ?_;(conv=>whnf);refine sr ?_;(conv=>whnf);refine IxG.mk 10 (of_decide_eq_true hc7898) (by decide) ?_;(conv=>whnf);refine sr ?_;cases hx572;(conv=>whnf);refine ⟨(), trivial, Sub.eq rfl ?_ ?_⟩
                        ·(repeat ((conv=>whnf);refine nr ?_));exact trivial
                        ·(conv=>whnf);refine no ?_;(conv=>whnf);refine no ?_;(conv=>whnf);refine no ?_;(conv=>whnf);refine no ?_;(conv=>whnf);refine no ?_;(conv=>whnf);refine no ?_;(conv=>whnf);refine no ?_;exact trivial
                       ·replace hx572 := ite_f hc7898 hx572;rcases bcases (decide (both12.a0.fPlayer = 11)) with hc7899 | hc7899
                        ·replace hx572 := ite_t hc7899 hx572;(conv=>whnf);refine IxG.mk 11 (of_decide_eq_true hc7899) (by decide) ?_;(conv=>whnf);refine sr ?_;(conv=>whnf);refine IxG.mk 11 (of_decide_eq_true hc7899) (by decide) ?_;(conv=>whnf);refine sr ?_;cases hx572;(conv=>whnf);refine ⟨(), trivial, Sub.eq rfl ?_ ?_⟩
                         ·(repeat ((conv=>whnf);refine nr ?_));exact trivial
                         ·(conv=>whnf);refine no ?_;(conv=>whnf);refine no ?_;(conv=>whnf);refine no ?_;(conv=>whnf);refine no ?_;(conv=>whnf);refine no ?_;(conv=>whnf);refine no ?_;(conv=>whnf);refine no ?_;exact trivial
                        ·replace hx572 := ite_f hc7899 hx572;rcases bcases (decide (both12.a0.fPlayer = 12)) with hc7900 | hc7900
                         ·replace hx572 := ite_t hc7900 hx572;(conv=>whnf);refine IxG.mk 12 (of_decide_eq_true hc7900) (by decide) ?_;(conv=>whnf);refine sr ?_;(conv=>whnf);refine IxG.mk 12 (of_decide_eq_true hc7900) (by decide) ?_;(conv=>whnf);refine sr ?_;cases hx572;(conv=>whnf);refine ⟨(), trivial, Sub.eq rfl ?_ ?_⟩
                          ·(repeat ((conv=>whnf);refine nr ?_));exact trivial
                          ·(conv=>whnf);refine no ?_;(conv=>whnf);refine no ?_;(conv=>whnf);refine no ?_;(conv=>whnf);refine no ?_;(conv=>whnf);refine no ?_;(conv=>whnf);refine no ?_;(conv=>whnf);refine no ?_;exact trivial
                         ·replace hx572 := ite_f hc7900 hx572;rcases bcases (decide (both12.a0.fPlayer = 13)) with hc7901 | hc7901
                          ·replace hx572 := ite_t hc7901 hx572;(conv=>whnf);refine IxG.mk 13 (of_decide_eq_true hc7901) (by decide) ?_;(conv=>whnf);refine sr ?_;(conv=>whnf);refine IxG.mk 13 (of_decide_eq_true hc7901) (by decide) ?_;(conv=>whnf);refine sr ?_;cases hx572;(conv=>whnf);refine ⟨(), trivial, Sub.eq rfl ?_ ?_⟩
                           ·(repeat ((conv=>whnf);refine nr ?_));exact trivial
                           ·(conv=>whnf);refine no ?_;(conv=>whnf);refine no ?_;(conv=>whnf);refine no ?_;(conv=>whnf);refine no ?_;(conv=>whnf);refine no ?_;(conv=>whnf);refine no ?_;(conv=>whnf);refine no ?_;exact trivial
                          ·replace hx572 := ite_f hc7901 hx572;rcases bcases (decide (both12.a0.fPlayer = 14)) with hc7902 | hc7902
                           ·replace hx572 := ite_t hc7902 hx572;(conv=>whnf);refine IxG.mk 14 (of_decide_eq_true hc7902) (by decide) ?_;(conv=>whnf);refine sr ?_;(conv=>whnf);refine IxG.mk 14 (of_decide_eq_true hc7902) (by decide) ?_;(conv=>whnf);refine sr ?_;cases hx572;(conv=>whnf);refine ⟨(), trivial, Sub.eq rfl ?_ ?_⟩
                            ·(repeat ((conv=>whnf);refine nr ?_));exact trivial
                            ·(conv=>whnf);refine no ?_;(conv=>whnf);refine no ?_;(conv=>whnf);refine no ?_;(conv=>whnf);refine no ?_;(conv=>whnf);refine no ?_;(conv=>whnf);refine no ?_;(conv=>whnf);refine no ?_;exact trivial
                           ·replace hx572 := ite_f hc7902 hx572;rcases bcases (decide (both12.a0.fPlayer = 15)) with hc7903 | hc7903
                            ·replace hx572 := ite_t hc7903 hx572;(conv=>whnf);refine IxG.mk 15 (of_decide_eq_true hc7903) (by decide) ?_;(conv=>whnf);refine sr ?_;(conv=>whnf);refine IxG.mk 15 (of_decide_eq_true hc7903) (by decide) ?_;(conv=>whnf);refine sr ?_;cases hx572;(conv=>whnf);refine ⟨(), trivial, Sub.eq rfl ?_ ?_⟩
                             ·(repeat ((conv=>whnf);refine nr ?_));exact trivial
                             ·(conv=>whnf);refine no ?_;(conv=>whnf);refine no ?_;(conv=>whnf);refine no ?_;(conv=>whnf);refine no ?_;(conv=>whnf);refine no ?_;(conv=>whnf);refine no ?_;(conv=>whnf);refine no ?_;exact trivial
                            ·replace hx572 := ite_f hc7903 hx572;cases hx572
            ·rintro _ _;(conv=>whnf);refine sr ?_;(conv=>whnf);refine IxG.mk 0 rfl (by decide) ?_;(conv=>whnf);refine sr ?_;(conv=>whnf);refine ⟨(players153, matches129, (Ar2.mk both12.a0.fPlayer 0)), hl4, Sub.eq rfl ?_ ?_⟩
             ·(repeat ((conv=>whnf);refine nr ?_));exact trivial
             ·(conv=>whnf);refine no ?_;(conv=>whnf);refine no ?_;(conv=>whnf);refine no ?_;(conv=>whnf);refine no ?_;(conv=>whnf);refine no ?_;(conv=>whnf);refine no ?_;exact trivial
           ·replace hl4 := ite_f hc7871 hl4;obtain ⟨v207, hx573, hl4⟩ := obind hl4;(conv=>whnf)
            refine SeqG.mk Unit (fun y => [(1, .ptr 1 b2 0), (3, .d (.list 4 (List.map LadderPair.enc ra2))), (5, .ptr 5 b5 0), (6, .ptr 6 b6 0), (7, .sl 122 hd49), (9, .d (I n11)), (10, .ptr 10 bb12 0), (11, .ptr 11 b280 0), (12, .i .i64 0), (13, .ptr 13 b296 0), (87, .d (.bool v207))]) (fun y => [(1, .cells b2 [.d (.int .u8 c1.fForm), .d (I c1.fPlayers), .d (I c1.fGames), .nils 3]), (5, .cells b5 [.d (I players129.a0), .d (I players129.a1), .d (I players129.a2), .d (I players129.a3), .d (I players129.a4), .d (I players129.a5), .d (I players129.a6), .d (I players129.a7), .d (I players129.a8), .d (I players129.a9), .d (I players129.a10), .d (I players129.a11), .d (I players129.a12), .d (I players129.a13), .d (I players129.a14), .d (I players129.a15)]), (6, .cells b6 [.d (I matches129.a0), .d (I matches129.a1), .d (I matches129.a2), .d (I matches129.a3), .d (I matches129.a4), .d (I matches129.a5), .d (I matches129.a6), .d (I matches129.a7), .d (I matches129.a8), .d (I matches129.a9), .d (I matches129.a10), .d (I matches129.a11), .d (I matches129.a12), .d (I matches129.a13), .d (I matches129.a14), .d (I matches129.a15)]), (122, .arr hd49 3 1 false (List.map I l29)), (10, .cells bb12 [.d (I both12.a0.fPlayer), .d (I both12.a0.fMatch), .d (I both12.a1.fPlayer), .d (I both12.a1.fMatch)]), (11, .cells b280 [.d (I 0), .d (I 0)]), (13, .cells b296 [.d (I both12.a0.fPlayer), .d (I both12.a0.fMatch)])]) (fun _ => True) ?_ ?_
            ·(conv=>whnf);refine sr ?_;(conv=>whnf);refine Br.mk (fun hc7906 => ?_) (fun hc7906 => ?_)
             ·replace hx573 := ite_t hc7906 hx573;(conv=>whnf);refine sr ?_;(conv=>whnf);refine Br.mk (fun hc7907 => ?_) (fun hc7907 => ?_)
              ·replace hx573 := ite_t hc7907 hx573;(conv=>whnf);refine sr ?_;cases hx573;(conv=>whnf);refine ⟨(), trivial, Sub.eq rfl ?_ ?_⟩
               ·(repeat ((conv=>whnf);refine nr ?_));exact trivial
               ·(conv=>whnf);refine no ?_;(conv=>whnf);refine no ?_;(conv=>whnf);refine no ?_;(conv=>whnf);refine no ?_;(conv=>whnf);refine no ?_;(conv=>whnf);refine no ?_;(conv=>whnf);refine no ?_;exact trivial
              ·replace hx573 := ite_f hc7907 hx573;cases hx573;(conv=>whnf);refine ⟨(), trivial, Sub.eq rfl ?_ ?_⟩
               ·(repeat ((conv=>whnf);refine nr ?_));exact trivial
               ·(conv=>whnf);refine no ?_;(conv=>whnf);refine no ?_;(conv=>whnf);refine no ?_;(conv=>whnf);refine no ?_;(conv=>whnf);refine no ?_;(conv=>whnf);refine no ?_;(conv=>whnf);refine no ?_;exact trivial
             ·replace hx573 := ite_f hc7906 hx573;cases hx573;(conv=>whnf);refine ⟨(), trivial, Sub.eq rfl ?_ ?_⟩
              ·(repeat ((conv=>whnf);refine nr ?_));exact trivial
              ·(conv=>whnf);refine no ?_;(conv=>whnf);refine no ?_;(conv=>whnf);refine no ?_;(conv=>whnf);refine no ?_;(conv=>whnf);refine no ?_;(conv=>whnf);refine no ?_;(conv=>whnf);refine no ?_;exact trivial
            ·rintro _ _;(conv=>whnf);refine Br.mk (fun hc7908 => ?_) (fun hc7908 => ?_)
             ·replace hl4 := ite_t hc7908 hl4;obtain ⟨matches153, hx574, hl4⟩ := obind hl4;(conv=>whnf)
              refine SeqG.mk Unit (fun y => [(1, .ptr 1 b2 0), (3, .d (.list 4 (List.map LadderPair.enc ra2))), (5, .ptr 5 b5 0), (6, .ptr 6 b6 0), (7, .sl 122 hd49), (9, .d (I n11)), (10, .ptr 10 bb12 0), (11, .ptr 11 b280 0), (12, .i .i64 0), (13, .ptr 13 b296 0)]) (fun y => [(1, .cells b2 [.d (.int .u8 c1.fForm), .d (I c1.fPlayers), .d (I c1.fGames), .nils 3]), (5, .cells b5 [.d (I players129.a0), .d (I players129.a1), .d (I players129.a2), .d (I players129.a3), .d (I players129.a4), .d (I players129.a5), .d (I players129.a6), .d (I players129.a7), .d (I players129.a8), .d (I players129.a9), .d (I players129.a10), .d (I players129.a11), .d (I players129.a12), .d (I players129.a13), .d (I players129.a14), .d (I players129.a15)]), (6, .cells b6 [.d (I matches153.a0), .d (I matches153.a1), .d (I matches153.a2), .d (I matches153.a3), .d (I matches153.a4), .d (I matches153.a5), .d (I matches153.a6), .d (I matches153.a7), .d (I matches153.a8), .d (I matches153.a9), .d (I matches153.a10), .d (I matches153.a11), .d (I matches153.a12), .d (I matches153.a13), .d (I matches153.a14), .d (I matches153.a15)]), (122, .arr hd49 3 1 false (List.map I l29)), (10, .cells bb12 [.d (I both12.a0.fPlayer), .d (I both12.a0.fMatch), .d (I both12.a1.fPlayer), .d (I both12.a1.fMatch)]), (11, .cells b280 [.d (I 0), .d (I 0)]), (13, .cells b296 [.d (I both12.a0.fPlayer), .d (I both12.a0.fMatch)])]) (fun _ => True) ?_ ?_
              ·(conv=>whnf);refine sr ?_;rcases bcases (decide (both12.a0.fMatch = 0)) with hc7925 | hc7925
               ·replace hx574 := ite_t hc7925 hx574;(conv=>whnf);refine IxG.mk 0 (of_decide_eq_true hc7925) (by decide) ?_;(conv=>whnf);refine sr ?_;(conv=>whnf);refine IxG.mk 0 (of_decide_eq_true hc7925) (by decide) ?_;(conv=>whnf);refine sr ?_;cases hx574;(conv=>whnf);refine ⟨(), trivial, Sub.eq rfl ?_ ?_⟩
                ·(repeat ((conv=>whnf);refine nr ?_));exact trivial
                ·(conv=>whnf);refine no ?_;(conv=>whnf);refine no ?_;(conv=>whnf);refine no ?_;(conv=>whnf);refine no ?_;(conv=>whnf);refine no ?_;(conv=>whnf);refine no ?_;(conv=>whnf);refine no ?_;exact trivial
               ·replace hx574 := ite_f hc7925 hx574;rcases bcases (decide (both12.a0.fMatch = 1)) with hc7926 | hc7926
                ·replace hx574 := ite_t hc7926 hx574;(conv=>whnf);refine IxG.mk 1 (of_decide_eq_true hc7926) (by decide) ?_;(conv=>whnf);refine sr ?_;(conv=>whnf);refine IxG.mk 1 (of_decide_eq_true hc7926) (by decide) ?_;(conv=>whnf);refine sr ?_;cases hx574;(conv=>whnf);refine ⟨(), trivial, Sub.eq rfl ?_ ?_⟩
                 ·(repeat ((conv=>whnf);refine nr ?_));exact trivial
                 ·(conv=>whnf);refine no ?_;(conv=>whnf);refine no ?_;(conv=>whnf);refine no ?_;(conv=>whnf);refine no ?_;(conv=>whnf);refine no ?_;(conv=>whnf);refine no ?_;(conv=>whnf);refine no ?_;exact trivial
                ·replace hx574 := ite_f hc7926 hx574;rcases bcases (decide (both12.a0.fMatch = 2)) with hc7927 | hc7927
                 ·replace hx574 := ite_t hc7927 hx574;(conv=>whnf);refine IxG.mk 2 (of_decide_eq_true hc7927) (by decide) ?_;(conv=>whnf);refine sr ?_;(conv=>whnf);refine IxG.mk 2 (of_decide_eq_true hc7927) (by decide) ?_;(conv=>whnf);refine sr ?_;cases hx574;(conv=>whnf);refine ⟨(), trivial, Sub.eq rfl ?_ ?_⟩
                  ·(repeat ((conv=>whnf);refine nr ?_));exact trivial
                  ·(conv=>whnf);refine no ?_;(conv=>whnf);refine no ?_;(conv=>whnf);refine no ?_;(conv=>whnf);refine no ?_;(conv=>whnf);refine no ?_;(conv=>whnf);refine no ?_;(conv=>whnf);refine no ?_;exact trivial
                 ·replace hx574 := ite_f hc7927 hx574;rcases bcases (decide (both12.a0.fMatch = 3)) with hc7928 | hc7928
                  ·replace hx574 := ite_t hc7928 hx574;(conv=>whnf);refine IxG.mk 3 (of_decide_eq_true hc7928) (by decide) ?_;(conv=>whnf);refine sr ?_;(conv=>whnf);refine IxG.mk 3 (of_decide_eq_true hc7928) (by decide) ?_;(conv=>whnf);refine sr ?_;cases hx574;(conv=>whnf);refine ⟨(), trivial, Sub.eq rfl ?_ ?_⟩
                   ·(repeat ((conv=>whnf);refine nr ?_));exact trivial
                   ·(conv=>whnf);refine no ?_;(conv=>whnf);refine no ?_;(conv=>whnf);refine no ?_;(conv=>whnf);refine no ?_;(conv=>whnf);refine no ?_;(conv=>whnf);refine no ?_;(conv=>whnf);refine no ?_;exact trivial
                  ·replace hx574 := ite_f hc7928 hx574;rcases bcases (decide (both12.a0.fMatch = 4)) with hc7929 | hc7929
                   ·replace hx574 := ite_t hc7929 hx574;(conv=>whnf);refine IxG.mk 4 (of_decide_eq_true hc7929) (by decide) ?_;(conv=>whnf);refine sr ?_;(conv=>whnf);refine IxG.mk 4 (of_decide_eq_true hc7929) (by decide) ?_;(conv=>whnf);refine sr ?_;cases hx574;(conv=>whnf);refine ⟨(), trivial, Sub.eq rfl ?_ ?_⟩
                    ·(repeat ((conv=>whnf);refine nr ?_));exact trivial
                    ·(conv=>whnf);refine no ?_;(conv=>whnf);refine no ?_;(conv=>whnf);refine no ?_;(conv=>whnf);refine no ?_;(conv=>whnf);refine no ?_;(conv=>whnf);refine no ?_;(conv=>whnf);refine no ?_;exact trivial
                   ·replace hx574 := ite_f hc7929 hx574;rcases bcases (decide (both12.a0.fMatch = 5)) with hc7930 | hc7930
                    ·replace hx574 := ite_t hc7930 hx574;(conv=>whnf);refine IxG.mk 5 (of_decide_eq_true hc7930) (by decide) ?_;(conv=>whnf);refine sr ?_;(conv=>whnf);refine IxG.mk 5 (of_decide_eq_true hc7930) (by decide) ?_;(conv=>whnf);refine sr ?_;cases hx574;(conv=>whnf);refine ⟨(), trivial, Sub.eq rfl ?_ ?_⟩
                     ·(repeat ((conv=>whnf);refine nr ?_));exact trivial
                     ·(conv=>whnf);refine no ?_;(conv=>whnf);refine no ?_;(conv=>whnf);refine no ?_;(conv=>whnf);refine no ?_;(conv=>whnf);refine no ?_;(conv=>whnf);refine no ?_;(conv=>whnf);refine no ?_;exact trivial
                    ·replace hx574 := ite_f hc7930 hx574;rcases bcases (decide (both12.a0.fMatch = 6)) with hc7931 | hc7931
                     ·replace hx574 := ite_t hc7931 hx574;(conv=>whnf);refine IxG.mk 6 (of_decide_eq_true hc7931) (by decide) ?_;(conv=>whnf);refine sr ?_;(conv=>whnf);refine IxG.mk 6 (of_decide_eq_true hc7931) (by decide) ?_;(conv=>whnf);refine sr ?_;cases hx574;(conv=>whnf);refine ⟨(), trivial, Sub.eq rfl ?_ ?_⟩
                      ·(repeat ((conv=>whnf);refine nr ?_));exact trivial
                      ·(conv=>whnf);refine no ?_;(conv=>whnf);refine no ?_;(conv=>whnf);refine no ?_;(conv=>whnf);refine no ?_;(conv=>whnf);refine no ?_;(conv=>whnf);refine no ?_;(conv=>whnf);refine no ?_;exact trivial
                     ·replace hx574 := ite_f hc7931 hx574;rcases bcases (decide (both12.a0.fMatch = 7)) with hc7932 | hc7932
                      ·replace hx574 := ite_t hc7932 hx574;(conv=>whnf);refine IxG.mk 7 (of_decide_eq_true hc7932) (by decide) ?_;(conv=>whnf);refine sr ?_;(conv=>whnf);refine IxG.mk 7 (of_decide_eq_true hc7932) (by decide) ?_;(conv=>whnf);refine sr ?_;cases hx574;(conv=>whnf);refine ⟨(), trivial, Sub.eq rfl ?_ ?_⟩
                       ·(repeat ((conv=>whnf);refine nr ?_));exact trivial
                       ·(conv=>whnf);refine no ?_;(conv=>whnf);refine no ?_;(conv=>whnf);refine no ?_;(conv=>whnf);refine no ?_;(conv=>whnf);refine no ?_;(conv=>whnf);refine no ?_;(conv=>whnf);refine no ?_;exact trivial
                      ·replace hx574 := ite_f hc7932 hx574;rcases bcases (decide (both12.a0.fMatch = 8)) with hc7933 | hc7933
                       ·replace hx574 := ite_t hc7933 hx574;(conv=>whnf);refine IxG.mk 8 (of_decide_eq_true hc7933) (by decide) ?_;(conv=>whnf);refine sr ?_;(conv=>whnf);refine IxG.mk 8 (of_decide_eq_true hc7933) (by decide) ?_;(conv=>whnf);refine sr ?_;cases hx574;(conv=>whnf);refine ⟨(), trivial, Sub.eq rfl ?_ ?_⟩
                        ·(repeat ((conv=>whnf);refine nr ?_));exact trivial
                        ·(conv=>whnf);refine no ?_;(conv=>whnf);refine no ?_;(conv=>whnf);refine no ?_;(conv=>whnf);refine no ?_;(conv=>whnf);refine no ?_;(conv=>whnf);refine no ?_;(conv=>whnf);refine no ?_;exact trivial
                       ·replace hx574 := ite_f hc7933 hx574;rcases bcases (decide (both12.a0.fMatch = 9)) with hc7934 | hc7934
                        ·replace hx574 := ite_t hc7934 hx574;(conv=>whnf);refine IxG.mk 9 (of_decide_eq_true hc7934) (by decide) ?_;(conv=>whnf);refine sr ?_;(conv=>whnf);refine IxG.mk 9 (of_decide_eq_true hc7934) (by decide) ?_;(conv=>whnf);refine sr ?_;cases hx574;(conv=>whnf);refine ⟨(), trivial, Sub.eq rfl ?_ ?_⟩
                         ·(repeat ((conv=>whnf);refine nr ?_));exact trivial
                         ·(conv=>whnf);refine no ?_;(conv=>whnf);refine no ?_;(conv=>whnf);refine no ?_;(conv=>whnf);refine no ?_;(conv=>whnf);refine no ?_;(conv=>whnf);refine no ?_;(conv=>whnf);refine no ?_;exact trivial
                        ·replace hx574 := ite_f hc7934 hx574;rcases bcases (decide (both12.a0.fMatch = 10)) with hc7935 | hc7935
                         ·replace hx574 := ite_t hc7935 hx574;(conv=>whnf);refine IxG.mk 10 (of_decide_eq_true hc7935) (by decide) ?_;(conv=>whnf);refine sr ?_;(conv=>whnf);refine IxG.mk 10 (of_decide_eq_true hc7935) (by decide) ?_;(conv=>whnf);refine sr ?_;cases hx574;(conv=>whnf);refine ⟨(), trivial, Sub.eq rfl ?_ ?_⟩
                          ·(repeat ((conv=>whnf);refine nr ?_));exact trivial
                          ·(conv=>whnf);refine no ?_;(conv=>whnf);refine no ?_;(conv=>whnf);refine no ?_;(conv=>whnf);refine no ?_;(conv=>whnf);refine no ?_;(conv=>whnf);refine no ?_;(conv=>whnf);refine no ?_;exact trivial
                         ·replace hx574 := ite_f hc7935 hx574;rcases bcases (decide (both12.a0.fMatch = 11)) with hc7936 | hc7936
                          ·replace hx574 := ite_t hc7936 hx574;(conv=>whnf);refine IxG.mk 11 (of_decide_eq_true hc7936) (by decide) ?_;(conv=>whnf);refine sr ?_;(conv=>whnf);refine IxG.mk 11 (of_decide_eq_true hc7936) (by decide) ?_;(conv=>whnf);refine sr ?_;cases hx574;(conv=>whnf);refine ⟨(), trivial, Sub.eq rfl ?_ ?_⟩
                           ·(repeat ((conv=>whnf);refine nr ?_));exact trivial
                           ·(conv=>whnf);refine no ?_;(conv=>whnf);refine no ?_;(conv=>whnf);refine no ?_;(conv=>whnf);refine no ?_;(conv=>whnf);refine no ?_;(conv=>whnf);refine no ?_;(conv=>whnf);refine no ?_;exact trivial
                          ·replace hx574 := ite_f hc7936 hx574;rcases bcases (decide (both12.a0.fMatch = 12)) with hc7937 | hc7937
                           ·replace hx574 := ite_t hc7937 hx574;(conv=>whnf);refine IxG.mk 12 (of_decide_eq_true hc7937) (by decide) ?_;(conv=>whnf);refine sr ?_;(conv=>whnf);refine IxG.mk 12 (of_decide_eq_true hc7937) (by decide) ?_;(conv=>whnf);refine sr ?_;cases hx574;(conv=>whnf);refine ⟨(), trivial, Sub.eq rfl ?_ ?_⟩
                            ·(repeat ((conv=>whnf);refine nr ?_));exact trivial
                            ·(conv=>whnf);refine no ?_;(conv=>whnf);refine no ?_;(conv=>whnf);refine no ?_;(conv=>whnf);refine no ?_;(conv=>whnf);refine no ?_;(conv=>whnf);refine no ?_;(conv=>whnf);refine no ?_;exact trivial
                           ·replace hx574 := ite_f hc7937 hx574;rcases bcases (decide (both12.a0.fMatch = 13)) with hc7938 | hc7938
                            ·replace hx574 := ite_t hc7938 hx574;(conv=>whnf);refine IxG.mk 13 (of_decide_eq_true hc7938) (by decide) ?_;(conv=>whnf);refine sr ?_;(conv=>whnf);refine IxG.mk 13 (of_decide_eq_true hc7938) (by decide) ?_;(conv=>whnf);refine sr ?_;cases hx574;(conv=>whnf);refine ⟨(), trivial, Sub.eq rfl ?_ ?_⟩
                             ·(repeat ((conv=>whnf);refine nr ?_));exact trivial
                             ·(conv=>whnf);refine no ?_;(conv=>whnf);refine no ?_;(conv=>whnf);refine no ?_;(conv=>whnf);refine no ?_;(conv=>whnf);refine no ?_;(conv=>whnf);refine no ?_;(conv=>whnf);refine no ?_;exact trivial
                            ·replace hx574 := ite_f hc7938 hx574;rcases bcases (decide (both12.a0.fMatch = 14)) with hc7939 | hc7939
                             ·replace hx574 := ite_t hc7939 hx574;(conv=>whnf);refine IxG.mk 14 (of_decide_eq_true hc7939) (by decide) ?_;(conv=>whnf);refine sr ?_;(conv=>whnf);refine IxG.mk 14 (of_decide_eq_true hc7939) (by decide) ?_;(conv=>whnf);refine sr ?_;cases hx574;(conv=>whnf);refine ⟨(), trivial, Sub.eq rfl ?_ ?_⟩
                              ·(repeat ((conv=>whnf);refine nr ?_));exact trivial
                              ·(conv=>whnf);refine no ?_;(conv=>whnf);refine no ?_;(conv=>whnf);refine no ?_;(conv=>whnf);refine no ?_;(conv=>whnf);refine no ?_;(conv=>whnf);refine no ?_;(conv=>whnf);refine no ?_;exact trivial
                             ·replace hx574 := ite_f hc7939 hx574;rcases bcases (decide (both12.a0.fMatch = 15)) with hc7940 | hc7940
                              ·replace hx574 := ite_t hc7940 hx574;(conv=>whnf);refine IxG.mk 15 (of_decide_eq_true hc7940) (by decide) ?_;(conv=>whnf);refine sr ?_;(conv=>whnf);refine IxG.mk 15 (of_decide_eq_true hc7940) (by decide) ?_;(conv=>whnf);refine sr ?_;cases hx574;(conv=>whnf);refine ⟨(), trivial, Sub.eq rfl ?_ ?_⟩
                               ·(repeat ((conv=>whnf);refine nr ?_));exact trivial
                               ·(conv=>whnf);refine no ?_;(conv=>whnf);refine no ?_;(conv=>whnf);refine no ?_;(conv=>whnf);refine no ?_;(conv=>whnf);refine no ?_;(conv=>whnf);refine no ?_;(conv=>whnf);refine no ?_;exact trivial
                              ·replace hx574 := ite_f hc7940 hx574;cases hx574
              ·rintro _ _;(conv=>whnf);refine sr ?_;obtain ⟨x124, hx575, hl4⟩ := obind hl4;(conv=>whnf);refine Side.mk ⟨rfl, rfl⟩ (Need.mk (idx_need _ hx575) ?_);(conv=>whnf);refine Side.mk ⟨rfl, rfl⟩ ⟨_, Int.natCast_nonneg _, idx_el _ hx575, ?_⟩;(conv=>whnf);refine IxG.mk 0 rfl (by decide) ?_;(conv=>whnf);refine sr ?_;(conv=>whnf);refine ⟨(players129, matches153, (Ar2.mk x124 0)), hl4, Sub.eq rfl ?_ ?_⟩
               ·(repeat ((conv=>whnf);refine nr ?_));exact trivial
               ·(conv=>whnf);refine no ?_;(conv=>whnf);refine no ?_;(conv=>whnf);refine no ?_;(conv=>whnf);refine no ?_;(conv=>whnf);refine no ?_;(conv=>whnf);refine no ?_;exact trivial
             ·replace hl4 := ite_f hc7908 hl4;(conv=>whnf);cases hl4;exact rfl
         ·rintro ⟨players149, matches149, p47⟩ h;unfold law09LadderTree_k5 at h;(conv=>whnf)
          refine SeqG.mk ((Ar16 Int) × (Ar16 Int) × (Ar2 Int)) (fun y => [(1, .ptr 1 b2 0), (3, .d (.list 4 (List.map LadderPair.enc ra2))), (5, .ptr 5 b5 0), (6, .ptr 6 b6 0), (7, .sl 122 hd49), (9, .d (I n11)), (10, .ptr 10 bb12 0), (11, .ptr 11 b280 0), (12, .i .i64 1)]) (fun y => [(1, .cells b2 [.d (.int .u8 c1.fForm), .d (I c1.fPlayers), .d (I c1.fGames), .nils 3]), (5, .cells b5 [.d (I y.1.a0), .d (I y.1.a1), .d (I y.1.a2), .d (I y.1.a3), .d (I y.1.a4), .d (I y.1.a5), .d (I y.1.a6), .d (I y.1.a7), .d (I y.1.a8), .d (I y.1.a9), .d (I y.1.a10), .d (I y.1.a11), .d (I y.1.a12), .d (I y.1.a13), .d (I y.1.a14), .d (I y.1.a15)]), (6, .cells b6 [.d (I y.2.1.a0), .d (I y.2.1.a1), .d (I y.2.1.a2), .d (I y.2.1.a3), .d (I y.2.1.a4), .d (I y.2.1.a5), .d (I y.2.1.a6), .d (I y.2.1.a7), .d (I y.2.1.a8), .d (I y.2.1.a9), .d (I y.2.1.a10), .d (I y.2.1.a11), .d (I y.2.1.a12), .d (I y.2.1.a13), .d (I y.2.1.a14), .d (I y.2.1.a15)]), (122, .arr hd49 3 1 false (List.map I l29)), (10, .cells bb12 [.d (I both12.a0.fPlayer), .d (I both12.a0.fMatch), .d (I both12.a1.fPlayer), .d (I both12.a1.fMatch)]), (11, .cells b280 [.d (I y.2.2.a0), .d (I y.2.2.a1)])]) (fun y => law09LadderTree_k4 N n11 l29 (loopN (fun rr x => law09LadderTree_b6 N c1 ra2 rr x.1 x.2.1 x.2.2.1 x.2.2.2.1 x.2.2.2.2) n12) y.1 y.2.1 y.2.2 = some r) ?_ ?_
          ·(conv=>whnf);refine IxG.mk 1 rfl (by decide) ?_;(conv=>whnf);refine sr ?_;(conv=>whnf);intro b294;(conv=>whnf);refine sr ?_;obtain ⟨v204, hx566, h⟩ := obind h;(conv=>whnf)
           refine SeqG.mk Unit (fun y => [(1, .ptr 1 b2 0), (3, .d (.list 4 (List.map LadderPair.enc ra2))), (5, .ptr 5 b5 0), (6, .ptr 6 b6 0), (7, .sl 122 hd49), (9, .d (I n11)), (10, .ptr 10 bb12 0), (11, .ptr 11 b280 0), (12, .i .i64 1), (13, .ptr 13 b294 0), (61, .d (.bool v204))]) (fun y => [(1, .cells b2 [.d (.int .u8 c1.fForm), .d (I c1.fPlayers), .d (I c1.fGames), .nils 3]), (5, .cells b5 [.d (I players149.a0), .d (I players149.a1), .d (I players149.a2), .d (I players149.a3), .d (I players149.a4), .d (I players149.a5), .d (I players149.a6), .d (I players149.a7), .d (I players149.a8), .d (I players149.a9), .d (I players149.a10), .d (I players149.a11), .d (I players149.a12), .d (I players149.a13), .d (I players149.a14), .d (I players149.a15)]), (6, .cells b6 [.d (I matches149.a0), .d (I matches149.a1), .d (I matches149.a2), .d (I matches149.a3), .d (I matches149.a4), .d (I matches149.a5), .d (I matches149.a6), .d (I matches149.a7), .d (I matches149.a8), .d (I matches149.a9), .d (I matches149.a10), .d (I matches149.a11), .d (I matches149.a12), .d (I matches149.a13), .d (I matches149.a14), .d (I matches149.a15)]), (122, .arr hd49 3 1 false (List.map I l29)), (10, .cells bb12 [.d (I both12.a0.fPlayer), .d (I both12.a0.fMatch), .d (I both12.a1.fPlayer), .d (I both12.a1.fMatch)]), (11, .cells b280 [.d (I p47.a0), .d (I p47.a1)]), (13, .cells b294 [.d (I both12.a1.fPlayer), .d (I both12.a1.fMatch)])]) (fun _ => True) ?_ ?_
           ·(conv=>whnf);refine sr ?_;(conv=>whnf);refine Br.mk (fun hc7795 => ?_) (fun hc7795 => ?_)
            ·replace hx566 := ite_t hc7795 hx566;(conv=>whnf);refine sr ?_;(conv=>whnf);refine Br.mk (fun hc7796 => ?_) (fun hc7796 => ?_)
             ·replace hx566 := ite_t hc7796 hx566;(conv=>whnf);refine sr ?_;(conv=>whnf);refine sr ?_;cases hx566;(conv=>whnf);refine ⟨(), trivial, Sub.eq rfl ?_ ?_⟩
              ·(repeat ((conv=>whnf);refine nr ?_));exact trivial
              ·(conv=>whnf);refine no ?_;(conv=>whnf);refine no ?_;(conv=>whnf);refine no ?_;(conv=>whnf);refine no ?_;(conv=>whnf);refine no ?_;(conv=>whnf);refine no ?_;(conv=>whnf);refine no ?_;exact trivial
             ·replace hx566 := ite_f hc7796 hx566;cases hx566;(conv=>whnf);refine ⟨(), trivial, Sub.eq rfl ?_ ?_⟩
              ·(repeat ((conv=>whnf);refine nr ?_));exact trivial
              ·(conv=>whnf);refine no ?_;(conv=>whnf);refine no ?_;(conv=>whnf);refine no ?_;(conv=>whnf);refine no ?_;(conv=>whnf);refine no ?_;(conv=>whnf);refine no ?_;(conv=>whnf);refine no ?_;exact trivial
            ·replace hx566 := ite_f hc7795 hx566;cases hx566;(conv=>whnf);refine ⟨(), trivial, Sub.eq rfl ?_ ?_⟩
             ·(repeat ((conv=>whnf);refine nr ?_));exact trivial
             ·(conv=>whnf);refine no ?_;(conv=>whnf);refine no ?_;(conv=>whnf);refine no ?_;(conv=>whnf);refine no ?_;(conv=>whnf);refine no ?_;(conv=>whnf);refine no ?_;(conv=>whnf);refine no ?_;exact trivial
           ·rintro _ _;(conv=>whnf);refine Br.mk (fun hc7797 => ?_) (fun hc7797 => ?_)
            ·replace h := ite_t hc7797 h;obtain ⟨players152, hx567, h⟩ := obind h;(conv=>whnf)
             refine SeqG.mk Unit (fun y => [(1, .ptr 1 b2 0), (3, .d (.list 4 (List.map LadderPair.enc ra2))), (5, .ptr 5 b5 0), (6, .ptr 6 b6 0), (7, .sl 122 hd49), (9, .d (I n11)), (10, .ptr 10 bb12 0), (11, .ptr 11 b280 0), (12, .i .i64 1), (13, .ptr 13 b294 0)]) (fun y => [(1, .cells b2 [.d (.int .u8 c1.fForm), .d (I c1.fPlayers), .d (I c1.fGames), .nils 3]), (5, .cells b5 [.d (I players152.a0), .d (I players152.a1), .d (I players152.a2), .d (I players152.a3), .d (I players152.a4), .d (I players152.a5), .d (I players152.a6), .d (I players152.a7), .d (I players152.a8), .d (I players152.a9), .d (I players152.a10), .d (I players152.a11), .d (I players152.a12), .d (I players152.a13), .d (I players152.a14), .d (I players152.a15)]), (6, .cells b6 [.d (I matches149.a0), .d (I matches149.a1), .d (I matches149.a2), .d (I matches149.a3), .d (I matches149.a4), .d (I matches149.a5), .d (I matches149.a6), .d (I matches149.a7), .d (I matches149.a8), .d (I matches149.a9), .d (I matches149.a10), .d (I matches149.a11), .d (I matches149.a12), .d (I matches149.a13), .d (I matches149.a14), .d (I matches149.a15)]), (122, .arr hd49 3 1 false (List.map I l29)), (10, .cells bb12 [.d (I both12.a0.fPlayer), .d (I both12.a0.fMatch), .d (I both12.a1.fPlayer), .d (I both12.a1.fMatch)]), (11, .cells b280 [.d (I p47.a0), .d (I p47.a1)]), (13, .cells b294 [.d (I both12.a1.fPlayer), .d (I both12.a1.fMatch)])]) (fun _ => True) ?_ ?_
             ·(conv=>whnf);refine sr ?_;rcases bcases (decide (both12.a1.fPlayer = 0)) with hc7814 | hc7814
              ·replace hx567 := ite_t hc7814 hx567;(conv=>whnf);refine IxG.mk 0 (of_decide_eq_true hc7814) (by decide) ?_;(conv=>whnf);refine sr ?_;(conv=>whnf);refine IxG.mk 0 (of_decide_eq_true hc7814) (by decide) ?_;(conv=>whnf);refine sr ?_;cases hx567;(conv=>whnf);refine ⟨(), trivial, Sub.eq rfl ?_ ?_⟩
               ·(repeat ((conv=>whnf);refine nr ?_));exact trivial
               ·(conv=>whnf);refine no ?_;(conv=>whnf);refine no ?_;(conv=>whnf);refine no ?_;(conv=>whnf);refine no ?_;(conv=>whnf);refine no ?_;(conv=>whnf);refine no ?_;(conv=>whnf);refine no ?_;exact trivial
              ·replace hx567 := ite_f hc7814 hx567;rcases bcases (decide (both12.a1.fPlayer = 1)) with hc7815 | hc7815
               ·replace hx567 := ite_t hc7815 hx567;(conv=>whnf);refine IxG.mk 1 (of_decide_eq_true hc7815) (by decide) ?_;(conv=>whnf);refine sr ?_;(conv=>whnf);refine IxG.mk 1 (of_decide_eq_true hc7815) (by decide) ?_;(conv=>whnf);refine sr ?_;cases hx567;(conv=>whnf);refine ⟨(), trivial, Sub.eq rfl ?_ ?_⟩
                ·(repeat ((conv=>whnf);refine nr ?_));exact trivial
                ·(conv=>whnf);refine no ?_;(conv=>whnf);refine no ?_;(conv=>whnf);refine no ?_;(conv=>whnf);refine no ?_;(conv=>whnf);refine no ?_;(conv=>whnf);refine no ?_;(conv=>whnf);refine no ?_;exact trivial
               ·replace hx567 := ite_f hc7815 hx567;rcases bcases (decide (both12.a1.fPlayer = 2)) with hc7816 | hc7816
                ·replace hx567 := ite_t hc7816 hx567;(conv=>whnf);refine IxG.mk 2 (of_decide_eq_true hc7816) (by decide) ?_;(conv=>whnf);refine sr ?_;(conv=>whnf);refine IxG.mk 2 (of_decide_eq_true hc7816) (by decide) ?_;(conv=>whnf);refine sr ?_;cases hx567;(conv=>whnf);refine ⟨(), trivial, Sub.eq rfl ?_ ?_⟩
                 ·(repeat ((conv=>whnf);refine nr ?_));exact trivial
                 ·(conv=>whnf);refine no ?_;(conv=>whnf);refine no ?_;(conv=>whnf);refine no ?_;(conv=>whnf);refine no ?_;(conv=>whnf);refine no ?_;(conv=>whnf);refine no ?_;(conv=>whnf);refine no ?_;exact trivial
                ·replace hx567 := ite_f hc7816 hx567;rcases bcases (decide (both12.a1.fPlayer = 3)) with hc7817 | hc7817
                 ·replace hx567 := ite_t hc7817 hx567;(conv=>whnf);refine IxG.mk 3 (of_decide_eq_true hc7817) (by decide) ?_;(conv=>whnf);refine sr ?_;(conv=>whnf);refine IxG.mk 3 (of_decide_eq_true hc7817) (by decide) ?_;(conv=>whnf);refine sr ?_;cases hx567;(conv=>whnf);refine ⟨(), trivial, Sub.eq rfl ?_ ?_⟩
                  ·(repeat ((conv=>whnf);refine nr ?_));exact trivial
                  ·(conv=>whnf);refine no ?_;(conv=>whnf);refine no ?_;(conv=>whnf);refine no ?_;(conv=>whnf);refine no ?_;(conv=>whnf);refine no ?_;(conv=>whnf);refine no ?_;(conv=>whnf);refine no ?_;exact trivial
                 ·replace hx567 := ite_f hc7817 hx567;rcases bcases (decide (both12.a1.fPlayer = 4)) with hc7818 | hc7818
                  ·replace hx567 := ite_t hc7818 hx567;(conv=>whnf);refine IxG.mk 4 (of_decide_eq_true hc7818) (by decide) ?_;(conv=>whnf);refine sr ?_;(conv=>whnf);refine IxG.mk 4 (of_decide_eq_true hc7818) (by decide) ?_;(conv=>whnf);refine sr ?_;cases hx567;(conv=>whnf);refine ⟨(), trivial, Sub.eq rfl ?_ ?_⟩
                   ·(repeat ((conv=>whnf);refine nr ?_));exact trivial
                   ·(conv=>whnf);refine no ?_;(conv=>whnf);refine no ?_;(conv=>whnf);refine no ?_;(conv=>whnf);refine no ?_;(conv=>whnf);refine no ?_;(conv=>whnf);refine no ?_;(conv=>whnf);refine no ?_;exact trivial
                  ·replace hx567 := ite_f hc7818 hx567;rcases bcases (decide (both12.a1.fPlayer = 5)) with hc7819 | hc7819
                   ·replace hx567 := ite_t hc7819 hx567;(conv=>whnf);refine IxG.mk 5 (of_decide_eq_true hc7819) (by decide) ?_;(conv=>whnf);refine sr ?_;(conv=>whnf);refine IxG.mk 5 (of_decide_eq_true hc7819) (by decide) ?_;(conv=>whnf);refine sr ?_;cases hx567;(conv=>whnf);refine ⟨(), trivial, Sub.eq rfl ?_ ?_⟩
                    ·(repeat ((conv=>whnf);refine nr ?_));exact trivial
                    ·(conv=>whnf);refine no ?_;(conv=>whnf);refine no ?_;(conv=>whnf);refine no ?_;(conv=>whnf);refine no ?_;(conv=>whnf);refine no ?_;(conv=>whnf);refine no ?_;(conv=>whnf);refine no ?_;exact trivial
                   ·replace hx567 := ite_f hc7819 hx567;rcases bcases (decide (both12.a1.fPlayer = 6)) with hc7820 | hc7820
                    ·replace hx567 := ite_t hc7820 hx567;(conv=>whnf);refine IxG.mk 6 (of_decide_eq_true hc7820) (by decide) ?_;(conv=>whnf);refine sr ?_;(conv=>whnf);refine IxG.mk 6 (of_decide_eq_true hc7820) (by decide) ?_;(conv=>whnf);refine sr ?_;cases hx567;(conv=>whnf);refine ⟨(), trivial, Sub.eq rfl ?_ ?_⟩
                     ·(repeat ((conv=>whnf);refine nr ?_));exact trivial
                     ·(conv=>whnf);refine no ?_;(conv=>whnf);refine no ?_;(conv=>whnf);refine no ?_;(conv=>whnf);refine no ?_;(conv=>whnf);refine no ?_;(conv=>whnf);refine no ?_;(conv=>whnf);refine no ?_;exact trivial
                    ·replace hx567 := ite_f hc7820 hx567;rcases bcases (decide (both12.a1.fPlayer = 7)) with hc7821 | hc7821
                     ·replace hx567 := ite_t hc7821 hx567;(conv=>whnf);refine IxG.mk 7 (of_decide_eq_true hc7821) (by decide) ?_;(conv=>whnf);refine sr ?_;(conv=>whnf);refine IxG.mk 7 (of_decide_eq_true hc7821) (by decide) ?_;(conv=>whnf);refine sr ?_;cases hx567;(conv=>whnf);refine ⟨(), trivial, Sub.eq rfl ?_ ?_⟩
                      ·(repeat ((conv=>whnf);refine nr ?_));exact trivial
                      ·(conv=>whnf);refine no ?_;(conv=>whnf);refine no ?_;(conv=>whnf);refine no ?_;(conv=>whnf);refine no ?_;(conv=>whnf);refine no ?_;(conv=>whnf);refine no ?_;(conv=>whnf);refine no ?_;exact trivial
                     ·replace hx567 := ite_f hc7821 hx567;rcases bcases (decide (both12.a1.fPlayer = 8)) with hc7822 | hc7822
                      ·replace hx567 := ite_t hc7822 hx567;(conv=>whnf);refine IxG.mk 8 (of_decide_eq_true hc7822) (by decide) ?_;(conv=>whnf);refine sr ?_;(conv=>whnf);refine IxG.mk 8 (of_decide_eq_true hc7822) (by decide) ?_;(conv=>whnf);refine sr ?_;cases hx567;(conv=>whnf);refine ⟨(), trivial, Sub.eq rfl ?_ ?_⟩
                       ·(repeat ((conv=>whnf);refine nr ?_));exact trivial
                       ·(conv=>whnf);refine no ?_;(conv=>whnf);refine no ?_;(conv=>whnf);refine no ?_;(conv=>whnf);refine no ?_;(conv=>whnf);refine no ?_;(conv=>whnf);refine no ?_;(conv=>whnf);refine no ?_;exact trivial
                      ·replace hx567 := ite_f hc7822 hx567;rcases bcases (decide (both12.a1.fPlayer = 9)) with hc7823 | hc7823
                       ·replace hx567 := ite_t hc7823 hx567;(conv=>whnf);refine IxG.mk 9 (of_decide_eq_true hc7823) (by decide) ?_;(conv=>whnf);refine sr ?_;(conv=>whnf);refine IxG.mk 9 (of_decide_eq_true hc7823) (by decide) ?_;(conv=>whnf);refine sr ?_;cases hx567;(conv=>whnf);refine ⟨(), trivial, Sub.eq rfl ?_ ?_⟩
                        ·(repeat ((conv=>whnf);refine nr ?_));exact trivial
                        ·(conv=>whnf);refine no ?_;(conv=>whnf);refine no ?_;(conv=>whnf);refine no ?_;(conv=>whnf);refine no ?_;(conv=>whnf);refine no ?_;(conv=>whnf);refine no ?_;(conv=>whnf);refine no ?_;exact trivial
                       ·replace hx567 := ite_f hc7823 hx567;rcases bcases (decide (both12.a1.fPlayer = 10)) with hc7824 | hc7824
                        ·replace hx567 := ite_t hc7824 hx567;(conv=>whnf);refine IxG.mk 10 (of_decide_eq_true hc7824) (by decide) ?_;(conv=>whnf);refine sr ?_;(conv=>whnf);refine IxG.mk 10 (of_decide_eq_true hc7824) (by decide) ?_;(conv=>whnf);refine sr ?_;cases hx567;(conv=>whnf);refine ⟨(), trivial, Sub.eq rfl ?_ ?_⟩
                         ·(repeat ((conv=>whnf);refine nr ?_));exact trivial
                         ·(conv=>whnf);refine no ?_;(conv=>whnf);refine no ?_;(conv=>whnf);refine no ?_;(conv=>whnf);refine no ?_;(conv=>whnf);refine no ?_;(conv=>whnf);refine no ?_;(conv=>whnf);refine no ?_;exact trivial
                        ·replace hx567 := ite_f hc7824 hx567;rcases bcases (decide (both12.a1.fPlayer = 11)) with hc7825 | hc7825
                         ·replace hx567 := ite_t hc7825 hx567;(conv=>whnf);refine IxG.mk 11 (of_decide_eq_true hc7825) (by decide) ?_;(conv=>whnf);refine sr ?_;(conv=>whnf);refine IxG.mk 11 (of_decide_eq_true hc7825) (by decide) ?_;(conv=>whnf);refine sr ?_;cases hx567;(conv=>whnf);refine ⟨(), trivial, Sub.eq rfl ?_ ?_⟩
                          ·(repeat ((conv=>whnf);refine nr ?_));exact trivial
                          ·(conv=>whnf);refine no ?_;(conv=>whnf);refine no ?_;(conv=>whnf);refine no ?_;(conv=>whnf);refine no ?_;(conv=>whnf);refine no ?_;(conv=>whnf);refine no ?_;(conv=>whnf);refine no ?_;exact trivial
                         ·replace hx567 := ite_f hc7825 hx567;rcases bcases (decide (both12.a1.fPlayer = 12)) with hc7826 | hc7826
                          ·replace hx567 := ite_t hc7826 hx567;(conv=>whnf);refine IxG.mk 12 (of_decide_eq_true hc7826) (by decide) ?_;(conv=>whnf);refine sr ?_;(conv=>whnf);refine IxG.mk 12 (of_decide_eq_true hc7826) (by decide) ?_;(conv=>whnf);refine sr ?_;cases hx567;(conv=>whnf);refine ⟨(), trivial, Sub.eq rfl ?_ ?_⟩
                           ·(repeat ((conv=>whnf);refine nr ?_));exact trivial
                           ·(conv=>whnf);refine no ?_;(conv=>whnf);refine no ?_;(conv=>whnf);refine no ?_;(conv=>whnf);refine no ?_;(conv=>whnf);refine no ?_;(conv=>whnf);refine no ?_;(conv=>whnf);refine no ?_;exact trivial
                          ·replace hx567 := ite_f hc7826 hx567;rcases bcases (decide (both12.a1.fPlayer = 13)) with hc7827 | hc7827
                           ·replace hx567 := ite_t hc7827 hx567;(conv=>whnf);refine IxG.mk 13 (of_decide_eq_true hc7827) (by decide) ?_;(conv=>whnf);refine sr ?_;(conv=>whnf);refine IxG.mk 13 (of_decide_eq_true hc7827) (by decide) ?_;(conv=>whnf);refine sr ?_;cases hx567;(conv=>whnf);refine ⟨(), trivial, Sub.eq rfl ?_ ?_⟩
                            ·(repeat ((conv=>whnf);refine nr ?_));exact trivial
                            ·(conv=>whnf);refine no ?_;(conv=>whnf);refine no ?_;(conv=>whnf);refine no ?_;(conv=>whnf);refine no ?_;(conv=>whnf);refine no ?_;(conv=>whnf);refine no ?_;(conv=>whnf);refine no ?_;exact trivial
                           ·replace hx567 := ite_f hc7827 hx567;rcases bcases (decide (both12.a1.fPlayer = 14)) with hc7828 | hc7828
                            ·replace hx567 := ite_t hc7828 hx567;(conv=>whnf);refine IxG.mk 14 (of_decide_eq_true hc7828) (by decide) ?_;(conv=>whnf);refine sr ?_;(conv=>whnf);refine IxG.mk 14 (of_decide_eq_true hc7828) (by decide) ?_;(conv=>whnf);refine sr ?_;cases hx567;(conv=>whnf);refine ⟨(), trivial, Sub.eq rfl ?_ ?_⟩
                             ·(repeat ((conv=>whnf);refine nr ?_));exact trivial
                             ·(conv=>whnf);refine no ?_;(conv=>whnf);refine no ?_;(conv=>whnf);refine no ?_;(conv=>whnf);refine no ?_;(conv=>whnf);refine no ?_;(conv=>whnf);refine no ?_;(conv=>whnf);refine no ?_;exact trivial
                            ·replace hx567 := ite_f hc7828 hx567;rcases bcases (decide (both12.a1.fPlayer = 15)) with hc7829 | hc7829
                             ·replace hx567 := ite_t hc7829 hx567;(conv=>whnf);refine IxG.mk 15 (of_decide_eq_true hc7829) (by decide) ?_;(conv=>whnf);refine sr ?_;(conv=>whnf);refine IxG.mk 15 (of_decide_eq_true hc7829) (by decide) ?_;(conv=>whnf);refine sr ?_;cases hx567;(conv=>whnf);refine ⟨(), trivial, Sub.eq rfl ?_ ?_⟩
                              ·(repeat ((conv=>whnf);refine nr ?_));exact trivial
                              ·(conv=>whnf);refine no ?_;(conv=>whnf);refine no ?_;(conv=>whnf);refine no ?_;(conv=>whnf);refine no ?_;(conv=>whnf);refine no ?_;(conv=>whnf);refine no ?_;(conv=>whnf);refine no ?_;exact trivial
                             ·replace hx567 := ite_f hc7829 hx567;cases hx567
             ·rintro _ _;(conv=>whnf);refine sr ?_;(conv=>whnf);refine IxG.mk 1 rfl (by decide) ?_;(conv=>whnf);refine sr ?_;(conv=>whnf);refine ⟨(players152, matches149, (Ar2.mk p47.a0 both12.a1.fPlayer)), h, Sub.eq rfl ?_ ?_⟩
              ·(repeat ((conv=>whnf);refine nr ?_));exact trivial
              ·(conv=>whnf);refine no ?_;(conv=>whnf);refine no ?_;(conv=>whnf);refine no ?_;(conv=>whnf);refine no ?_;(conv=>whnf);refine no ?_;(conv=>whnf);refine no ?_;exact trivial
            ·replace h := ite_f hc7797 h;obtain ⟨v205, hx568, h⟩ := obind h;(conv=>whnf)
             refine SeqG.mk Unit (fun y => [(1, .ptr 1 b2 0), (3, .d (.list 4 (List.map LadderPair.enc ra2))), (5, .ptr 5 b5 0), (6, .ptr 6 b6 0), (7, .sl 122 hd49), (9, .d (I n11)), (10, .ptr 10 bb12 0), (11, .ptr 11 b280 0), (12, .i .i64 1), (13, .ptr 13 b294 0), (87, .d (.bool v205))]) (fun y => [(1, .cells b2 [.d (.int .u8 c1.fForm), .d (I c1.fPlayers), .d (I c1.fGames), .nils 3]), (5, .cells b5 [.d (I players149.a0), .d (I players149.a1), .d (I players149.a2), .d (I players149.a3), .d (I players149.a4), .d (I players149.a5), .d (I players149.a6), .d (I players149.a7), .d (I players149.a8), .d (I players149.a9), .d (I players149.a10), .d (I players149.a11), .d (I players149.a12), .d (I players149.a13), .d (I players149.a14), .d (I players149.a15)]), (6, .cells b6 [.d (I matches149.a0), .d (I matches149.a1), .d (I matches149.a2), .d (I matches149.a3), .d (I matches149.a4), .d (I matches149.a5), .d (I matches149.a6), .d (I matches149.a7), .d (I matches149.a8), .d (I matches149.a9), .d (I matches149.a10), .d (I matches149.a11), .d (I matches149.a12), .d (I matches149.a13), .d (I matches149.a14), .d (I matches149.a15)]), (122, .arr hd49 3 1 false (List.map I l29)), (10, .cells bb12 [.d (I both12.a0.fPlayer), .d (I both12.a0.fMatch), .d (I both12.a1.fPlayer), .d (I both12.a1.fMatch)]), (11, .cells b280 [.d (I p47.a0), .d (I p47.a1)]), (13, .cells b294 [.d (I both12.a1.fPlayer), .d (I both12.a1.fMatch)])]) (fun _ => True) ?_ ?_
             ·(conv=>whnf);refine sr ?_;(conv=>whnf);refine Br.mk (fun hc7832 => ?_) (fun hc7832 => ?_)
              ·replace hx568 := ite_t hc7832 hx568;(conv=>whnf);refine sr ?_;(conv=>whnf);refine Br.mk (fun hc7833 => ?_) (fun hc7833 => ?_)
               ·replace hx568 := ite_t hc7833 hx568;(conv=>whnf);refine sr ?_;cases hx568;(conv=>whnf);refine ⟨(), trivial, Sub.eq rfl ?_ ?_⟩
                ·(repeat ((conv=>whnf);refine nr ?_));exact trivial
                ·(conv=>whnf);refine no ?_;(conv=>whnf);refine no ?_;(conv=>whnf);refine no ?_;(conv=>whnf);refine no ?_;(conv=>whnf);refine no ?_;(conv=>whnf);refine no ?_;(conv=>whnf);refine no ?_;exact trivial
               ·replace hx568 := ite_f hc7833 hx568;cases hx568;(conv=>whnf);refine ⟨(), trivial, Sub.eq rfl ?_ ?_⟩
                ·(repeat ((conv=>whnf);refine nr ?_));exact trivial
                ·(conv=>whnf);refine no ?_;(conv=>whnf);refine no ?_;(conv=>whnf);refine no ?_;(conv=>whnf);refine no ?_;(conv=>whnf);refine no ?_;(conv=>whnf);refine no ?_;(conv=>whnf);refine no ?_;exact trivial
              ·replace hx568 := ite_f hc7832 hx568;cases hx568;(conv=>whnf);refine ⟨(), trivial, Sub.eq rfl ?_ ?_⟩
               ·(repeat ((conv=>whnf);refine nr ?_));exact trivial
               ·(conv=>whnf);refine no ?_;(conv=>whnf);refine no ?_;(conv=>whnf);refine no ?_;(conv=>whnf);refine no ?_;(conv=>whnf);refine no ?_;(conv=>whnf);refine no ?_;(conv=>whnf);refine no ?_;exact trivial
             ·rintro _ _;(conv=>whnf);refine Br.mk (fun hc7834 => ?_) (fun hc7834 => ?_)
              ·replace h := ite_t hc7834 h;obtain ⟨matches152, hx569, h⟩ := obind h;(conv=>whnf)
               refine SeqG.mk Unit (fun y => [(1, .ptr 1 b2 0), (3, .d (.list 4 (List.map LadderPair.enc ra2))), (5, .ptr 5 b5 0), (6, .ptr 6 b6 0), (7, .sl 122 hd49), (9, .d (I n11)), (10, .ptr 10 bb12 0), (11, .ptr 11 b280 0), (12, .i .i64 1), (13, .ptr 13 b294 0)]) (fun y => [(1, .cells b2 [.d (.int .u8 c1.fForm), .d (I c1.fPlayers), .d (I c1.fGames), .nils 3]), (5, .cells b5 [.d (I players149.a0), .d (I players149.a1), .d (I players149.a2), .d (I players149.a3), .d (I players149.a4), .d (I players149.a5), .d (I players149.a6), .d (I players149.a7), .d (I players149.a8), .d (I players149.a9), .d (I players149.a10), .d (I players149.a11), .d (I players149.a12), .d (I players149.a13), .d (I players149.a14), .d (I players149.a15)]), (6, .cells b6 [.d (I matches152.a0), .d (I matches152.a1), .d (I matches152.a2), .d (I matches152.a3), .d (I matches152.a4), .d (I matches152.a5), .d (I matches152.a6), .d (I matches152.a7), .d (I matches152.a8), .d (I matches152.a9), .d (I matches152.a10), .d (I matches152.a11), .d (I matches152.a12), .d (I matches152.a13), .d (I matches152.a14), .d (I matches152.a15)]), (122, .arr hd49 3 1 false (List.map I l29)), (10, .cells bb12 [.d (I both12.a0.fPlayer), .d (I both12.a0.fMatch), .d (I both12.a1.fPlayer), .d (I both12.a1.fMatch)]), (11, .cells b280 [.d (I p47.a0), .d (I p47.a1)]), (13, .cells b294 [.d (I both12.a1.fPlayer), .d (I both12.a1.fMatch)])]) (fun _ => True) ?_ ?_
               ·(conv=>whnf);refine sr ?_;rcases bcases (decide (both12.a1.fMatch = 0)) with hc7851 | hc7851
                ·replace hx569 := ite_t hc7851 hx569;(conv=>whnf);refine IxG.mk 0 (of_decide_eq_true hc7851) (by decide) ?_;(conv=>whnf);refine sr ?_;(conv=>whnf);refine IxG.mk 0 (of_decide_eq_true hc7851) (by decide) ?_;(conv=>whnf);refine sr ?_;cases hx569;(conv=>whnf);refine ⟨(), trivial, Sub.eq rfl ?_ ?_⟩
                 ·(repeat ((conv=>whnf);refine nr ?_));exact trivial
                 ·(conv=>whnf);refine no ?_;(conv=>whnf);refine no ?_;(conv=>whnf);refine no ?_;(conv=>whnf);refine no ?_;(conv=>whnf);refine no ?_;(conv=>whnf);refine no ?_;(conv=>whnf);refine no ?_;exact trivial
                ·replace hx569 := ite_f hc7851 hx569;rcases bcases (decide (both12.a1.fMatch = 1)) with hc7852 | hc7852
                 ·replace hx569 := ite_t hc7852 hx569;(conv=>whnf);refine IxG.mk 1 (of_decide_eq_true hc7852) (by decide) ?_;(conv=>whnf);refine sr ?_;(conv=>whnf);refine IxG.mk 1 (of_decide_eq_true hc7852) (by decide) ?_;(conv=>whnf);refine sr ?_;cases hx569;(conv=>whnf);refine ⟨(), trivial, Sub.eq rfl ?_ ?_⟩
                  ·(repeat ((conv=>whnf);refine nr ?_));exact trivial
                  ·(conv=>whnf);refine no ?_;(conv=>whnf);refine no ?_;(conv=>whnf);refine no ?_;(conv=>whnf);refine no ?_;(conv=>whnf);refine no ?_;(conv=>whnf);refine no ?_;(conv=>whnf);refine no ?_;exact trivial
                 ·replace hx569 := ite_f hc7852 hx569;rcases bcases (decide (both12.a1.fMatch = 2)) with hc7853 | hc7853
                  ·replace hx569 := ite_t hc7853 hx569;(conv=>whnf);refine IxG.mk 2 (of_decide_eq_true hc7853) (by decide) ?_;(conv=>whnf);refine sr ?_;(conv=>whnf);refine IxG.mk 2 (of_decide_eq_true hc7853) (by decide) ?_;(conv=>whnf);refine sr ?_;cases hx569;(conv=>whnf);refine ⟨(), trivial, Sub.eq rfl ?_ ?_⟩
                   ·(repeat ((conv=>whnf);refine nr ?_));exact trivial
                   ·(conv=>whnf);refine no ?_;(conv=>whnf);refine no ?_;(conv=>whnf);refine no ?_;(conv=>whnf);refine no ?_;(conv=>whnf);refine no ?_;(conv=>whnf);refine no ?_;(conv=>whnf);refine no ?_;exact trivial
                  ·replace hx569 := ite_f hc7853 hx569;rcases bcases (decide (both12.a1.fMatch = 3)) with hc7854 | hc7854
                   ·replace hx569 := ite_t hc7854 hx569;(conv=>whnf);refine IxG.mk 3 (of_decide_eq_true hc7854) (by decide) ?_;(conv=>whnf);refine sr ?_;(conv=>whnf);refine IxG.mk 3 (of_decide_eq_true hc7854) (by decide) ?_;(conv=>whnf);refine sr ?_;cases hx569;(conv=>whnf);refine ⟨(), trivial, Sub.eq rfl ?_ ?_⟩
                    ·(repeat ((conv=>whnf);refine nr ?_));exact trivial
                    ·(conv=>whnf);refine no ?_;(conv=>whnf);refine no ?_;(conv=>whnf);refine no ?_;(conv=>whnf);refine no ?_;(conv=>whnf);refine no ?_;(conv=>whnf);refine no ?_;(conv=>whnf);refine no ?_;exact trivial
                   ·replace hx569 := ite_f hc7854 hx569;rcases bcases (decide (both12.a1.fMatch = 4)) with hc7855 | hc7855
                    ·replace hx569 := ite_t hc7855 hx569;(conv=>whnf);refine IxG.mk 4 (of_decide_eq_true hc7855) (by decide) ?_;(conv=>whnf);refine sr ?_;(conv=>whnf);refine IxG.mk 4 (of_decide_eq_true hc7855) (by decide) ?_;(conv=>whnf);refine sr ?_;cases hx569;(conv=>whnf);refine ⟨(), trivial, Sub.eq rfl ?_ ?_⟩
                     ·(repeat ((conv=>whnf);refine nr ?_));exact trivial
                     ·(conv=>whnf);refine no ?_;(conv=>whnf);refine no ?_;(conv=>whnf);refine no ?_;(conv=>whnf);refine no ?_;(conv=>whnf);refine no ?_;(conv=>whnf);refine no ?_;(conv=>whnf);refine no ?_;exact trivial
                    ·replace hx569 := ite_f hc7855 hx569;rcases bcases (decide (both12.a1.fMatch = 5)) with hc7856 | hc7856
                     ·replace hx569 := ite_t hc7856 hx569;(conv=>whnf);refine IxG.mk 5 (of_decide_eq_true hc7856) (by decide) ?_;(conv=>whnf);refine sr ?_;(conv=>whnf);refine IxG.mk 5 (of_decide_eq_true hc7856) (by decide) ?_;(conv=>whnf);refine sr ?_;cases hx569;(conv=>whnf);refine ⟨(), trivial, Sub.eq rfl ?_ ?_⟩
                      ·(repeat ((conv=>whnf);refine nr ?_));exact trivial
                      ·(conv=>whnf);refine no ?_;(conv=>whnf);refine no ?_;(conv=>whnf);refine no ?_;(conv=>whnf);refine no ?_;(conv=>whnf);refine no ?_;(conv=>whnf);refine no ?_;(conv=>whnf);refine no ?_;exact trivial
                     ·replace hx569 := ite_f hc7856 hx569;rcases bcases (decide (both12.a1.fMatch = 6)) with hc7857 | hc7857
                      ·replace hx569 := ite_t hc7857 hx569;(conv=>whnf);refine IxG.mk 6 (of_decide_eq_true hc7857) (by decide) ?_;(conv=>whnf);refine sr ?_;(conv=>whnf);refine IxG.mk 6 (of_decide_eq_true hc7857) (by decide) ?_;(conv=>whnf);refine sr ?_;cases hx569;(conv=>whnf);refine ⟨(), trivial, Sub.eq rfl ?_ ?_⟩
                       ·(repeat ((conv=>whnf);refine nr ?_));exact trivial
                       ·(conv=>whnf);refine no ?_;(conv=>whnf);refine no ?_;(conv=>whnf);refine no ?_;(conv=>whnf);refine no ?_;(conv=>whnf);refine no ?_;(conv=>whnf);refine no ?_;(conv=>whnf);refine no ?_;exact trivial
                      ·replace hx569 := ite_f hc7857 hx569;rcases bcases (decide (both12.a1.fMatch = 7)) with hc7858 | hc7858
                       ·replace hx569 := ite_t hc7858 hx569;(conv=>whnf);refine IxG.mk 7 (of_decide_eq_true hc7858) (by decide) ?_;(conv=>whnf);refine sr ?_;(conv=>whnf);refine IxG.mk 7 (of_decide_eq_true hc7858) (by decide) ?_;(conv=>whnf);refine sr ?_;cases hx569;(conv=>whnf);refine ⟨(), trivial, Sub.eq rfl ?_ ?_⟩
                        ·(repeat ((conv=>whnf);refine nr ?_));exact trivial
                        ·(conv=>whnf);refine no ?_;(conv=>whnf);refine no ?_;(conv=>whnf);refine no ?_;(conv=>whnf);refine no ?_;(conv=>whnf);refine no ?_;(conv=>whnf);refine no ?_;(conv=>whnf);refine no ?_;exact trivial
                       ·replace hx569 := ite_f hc7858 hx569;rcases bcases (decide (both12.a1.fMatch = 8)) with hc7859 | hc7859
                        ·replace hx569 := ite_t hc7859 hx569;(conv=>whnf);refine IxG.mk 8 (of_decide_eq_true hc7859) (by decide) ?_;(conv=>whnf);refine sr ?_;(conv=>whnf);refine IxG.mk 8 (of_decide_eq_true hc7859) (by decide) ?_;(conv=>whnf);refine sr ?_;cases hx569;(conv=>whnf);refine ⟨(), trivial, Sub.eq rfl ?_ ?_⟩
                         ·(repeat ((conv=>whnf);refine nr ?_));exact trivial
                         ·(conv=>whnf);refine no ?_;(conv=>whnf);refine no ?_;(conv=>whnf);refine no ?_;(conv=>whnf);refine no ?_;(conv=>whnf);refine no ?_;(conv=>whnf);refine no ?_;(conv=>whnf);refine no ?_;exact trivial
                        ·replace hx569 := ite_f hc7859 hx569;rcases bcases (decide (both12.a1.fMatch = 9)) with hc7860 | hc7860
                         ·replace hx569 := ite_t hc7860 hx569;(conv=>whnf);refine IxG.mk 9 (of_decide_eq_true hc7860) (by decide) ?_;(conv=>whnf);refine sr ?_;(conv=>whnf);refine IxG.mk 9 (of_decide_eq_true hc7860) (by decide) ?_;(conv=>whnf);refine sr ?_;cases hx569;(conv=>whnf);refine ⟨(), trivial, Sub.eq rfl ?_ ?_⟩
                          ·(repeat ((conv=>whnf);refine nr ?_));exact trivial
                          ·(conv=>whnf);refine no ?_;(conv=>whnf);refine no ?_;(conv=>whnf);refine no ?_;(conv=>whnf);refine no ?_;(conv=>whnf);refine no ?_;(conv=>whnf);refine no ?_;(conv=>whnf);refine no ?_;exact trivial
                         ·replace hx569 := ite_f hc7860 hx569;rcases bcases (decide (both12.a1.fMatch = 10)) with hc7861 | hc7861
                          ·replace hx569 := ite_t hc7861 hx569;(conv=>whnf);refine IxG.mk 10 (of_decide_eq_true hc7861) (by decide) ?_;(conv=>whnf);refine sr ?_;(conv=>whnf);refine IxG.mk 10 (of_decide_eq_true hc7861) (by decide) ?_;(conv=>whnf);refine sr ?_;cases hx569;(conv=>whnf);refine ⟨(), trivial, Sub.eq rfl ?_ ?_⟩
                           ·(repeat ((conv=>whnf);refine nr ?_));exact trivial
                           ·(conv=>whnf);refine no ?_;(conv=>whnf);refine no ?_;(conv=>whnf);refine no ?_;(conv=>whnf);refine no ?_;(conv=>whnf);refine no ?_;(conv=>whnf);refine no ?_;(conv=>whnf);refine no ?_;exact trivial
                          ·replace hx569 := ite_f hc7861 hx569;rcases bcases (decide (both12.a1.fMatch = 11)) with hc7862 | hc7862
                           ·replace hx569 := ite_t hc7862 hx569;(conv=>whnf);refine IxG.mk 11 (of_decide_eq_true hc7862) (by decide) ?_;(conv=>whnf);refine sr ?_;(conv=>whnf);refine IxG.mk 11 (of_decide_eq_true hc7862) (by decide) ?_;(conv=>whnf);refine sr ?_;cases hx569;(conv=>whnf);refine ⟨(), trivial, Sub.eq rfl ?_ ?_⟩
                            ·(repeat ((conv=>whnf);refine nr ?_));exact trivial
                            ·(conv=>whnf);refine no ?_;(conv=>whnf);refine no ?_;(conv=>whnf);refine no ?_;(conv=>whnf);refine no ?_;(conv=>whnf);refine no ?_;(conv=>whnf);refine no ?_;(conv=>whnf);refine no ?_;exact trivial
                           ·replace hx569 := ite_f hc7862 hx569;rcases bcases (decide (both12.a1.fMatch = 12)) with hc7863 | hc7863
                            ·replace hx569 := ite_t hc7863 hx569;(conv=>whnf);refine IxG.mk 12 (of_decide_eq_true hc7863) (by decide) ?_;(conv=>whnf);refine sr ?_;(conv=>whnf);refine IxG.mk 12 (of_decide_eq_true hc7863) (by decide) ?_;(conv=>whnf);refine sr ?_;cases hx569;(conv=>whnf);refine ⟨(), trivial, Sub.eq rfl ?_ ?_⟩
                             ·(repeat ((conv=>whnf);refine nr ?_));exact trivial
                             ·(conv=>whnf);refine no ?_;(conv=>whnf);refine no ?_;(conv=>whnf);refine no ?_;(conv=>whnf);refine no ?_;(conv=>whnf);refine no ?_;(conv=>whnf);refine no ?_;(conv=>whnf);refine no ?_;exact trivial
                            ·replace hx569 := ite_f hc7863 hx569;rcases bcases (decide (both12.a1.fMatch = 13)) with hc7864 | hc7864
                             ·replace hx569 := ite_t hc7864 hx569;(conv=>whnf);refine IxG.mk 13 (of_decide_eq_true hc7864) (by decide) ?_;(conv=>whnf);refine sr ?_;(conv=>whnf);refine IxG.mk 13 (of_decide_eq_true hc7864) (by decide) ?_;(conv=>whnf);refine sr ?_;cases hx569;(conv=>whnf);refine ⟨(), trivial, Sub.eq rfl ?_ ?_⟩
                              ·(repeat ((conv=>whnf);refine nr ?_));exact trivial
                              ·(conv=>whnf);refine no ?_;(conv=>whnf);refine no ?_;(conv=>whnf);refine no ?_;(conv=>whnf);refine no ?_;(conv=>whnf);refine no ?_;(conv=>whnf);refine no ?_;(conv=>whnf);refine no ?_;exact trivial
                             ·replace hx569 := ite_f hc7864 hx569;rcases bcases (decide (both12.a1.fMatch = 14)) with hc7865 | hc7865
                              ·replace hx569 := ite_t hc7865 hx569;(conv=>whnf);refine IxG.mk 14 (of_decide_eq_true hc7865) (by decide) ?_;(conv=>whnf);refine sr ?_;(conv=>whnf);refine IxG.mk 14 (of_decide_eq_true hc7865) (by decide) ?_;(conv=>whnf);refine sr ?_;cases hx569;(conv=>whnf);refine ⟨(), trivial, Sub.eq rfl ?_ ?_⟩
                               ·(repeat ((conv=>whnf);refine nr ?_));exact trivial
                               ·(conv=>whnf);refine no ?_;(conv=>whnf);refine no ?_;(conv=>whnf);refine no ?_;(conv=>whnf);refine no ?_;(conv=>whnf);refine no ?_;(conv=>whnf);refine no ?_;(conv=>whnf);refine no ?_;exact trivial
                              ·replace hx569 := ite_f hc7865 hx569;rcases bcases (decide (both12.a1.fMatch = 15)) with hc7866 | hc7866
                               ·replace hx569 := ite_t hc7866 hx569;(conv=>whnf);refine IxG.mk 15 (of_decide_eq_true hc7866) (by decide) ?_;(conv=>whnf);refine sr ?_;(conv=>whnf);refine IxG.mk 15 (of_decide_eq_true hc7866) (by decide) ?_;(conv=>whnf);refine sr ?_;cases hx569;(conv=>whnf);refine ⟨(), trivial, Sub.eq rfl ?_ ?_⟩
                                ·(repeat ((conv=>whnf);refine nr ?_));exact trivial
                                ·(conv=>whnf);refine no ?_;(conv=>whnf);refine no ?_;(conv=>whnf);refine no ?_;(conv=>whnf);refine no ?_;(conv=>whnf);refine no ?_;(conv=>whnf);refine no ?_;(conv=>whnf);refine no ?_;exact trivial
                               ·replace hx569 := ite_f hc7866 hx569;cases hx569
               ·rintro _ _;(conv=>whnf);refine sr ?_;obtain ⟨x123, hx570, h⟩ := obind h;(conv=>whnf);refine Side.mk ⟨rfl, rfl⟩ (Need.mk (idx_need _ hx570) ?_);(conv=>whnf);refine Side.mk ⟨rfl, rfl⟩ ⟨_, Int.natCast_nonneg _, idx_el _ hx570, ?_⟩;(conv=>whnf);refine IxG.mk 1 rfl (by decide) ?_;(conv=>whnf);refine sr ?_;(conv=>whnf);refine ⟨(players149, matches152, (Ar2.mk p47.a0 x123)), h, Sub.eq rfl ?_ ?_⟩
                ·(repeat ((conv=>whnf);refine nr ?_));exact trivial
                ·(conv=>whnf);refine no ?_;(conv=>whnf);refine no ?_;(conv=>whnf);refine no ?_;(conv=>whnf);refine no ?_;(conv=>whnf);refine no ?_;(conv=>whnf);refine no ?_;exact trivial
              ·replace h := ite_f hc7834 h;(conv=>whnf);cases h;exact rfl
          ·clear h;rintro ⟨players151, matches151, p48⟩ h;unfold law09LadderTree_k4 at h;(conv=>whnf);refine IxG.mk 0 rfl (by decide) ?_;(conv=>whnf);refine sr ?_;(conv=>whnf);refine IxG.mk 1 rfl (by decide) ?_;(conv=>whnf);refine sr ?_;(conv=>whnf);intro hd56;obtain ⟨l33, hx565, h⟩ := obind h;(conv=>whnf);refine Side.mk ⟨rfl, rfl⟩ ?_;(conv=>whnf);refine Side.mk ⟨rfl, rfl, rfl⟩ (Need.mk (app_need hN hx565 (by decide)) (Eqv.mk (List.map I l33) (app_map _ hx565) ?_));(conv=>whnf);intro hd57;(conv=>whnf);refine IxG.mk 0 rfl (by decide) ?_;(conv=>whnf);refine sr ?_;(conv=>whnf);refine IxG.mk 1 rfl (by decide) ?_;(conv=>whnf);refine sr ?_;(conv=>whnf);refine ⟨(n12, (max p48.a0 p48.a1, w64 (n11 + 1), players151, matches151, l33), hd57), h, Sub.eq rfl ?_ ?_, Nat.lt_succ_self _⟩
           ·(repeat ((conv=>whnf);refine nr ?_));exact trivial
           ·(conv=>whnf);refine no ?_;(conv=>whnf);refine no ?_;(conv=>whnf);refine no ?_;(conv=>whnf);refine no ?_;exact trivial
       ·replace hl4 := ite_f hc6756 hl4;(conv=>whnf);refine ⟨(meet9, players129, matches129, l29, hd49), hl4, Sub.eq rfl ?_ ?_⟩
        ·(repeat ((conv=>whnf);refine nr ?_));exact trivial
        ·(conv=>whnf);refine no ?_;(conv=>whnf);refine no ?_;(conv=>whnf);refine no ?_;(conv=>whnf);refine no ?_;exact trivial
     ·clear h;rintro ⟨meet5, players77, matches77, l17, hd29⟩ h;unfold law09LadderTree_k3 at h;(conv=>whnf);refine SeqG.mk Unit (fun y => [(1, .ptr 1 b2 0), (3, .d (.list 4 (List.map LadderPair.enc ra2))), (7, .sl 122 hd29), (8, .d (I meet5))]) (fun y => [(1, .cells b2 [.d (.int .u8 c1.fForm), .d (I c1.fPlayers), .d (I c1.fGames), .nils 3]), (122, .arr hd29 3 1 false (List.map I l17))]) (fun y => law09LadderTree_k1 N c1 ra2 meet5 l17 = some r) ?_ ?_
      ·(conv=>whnf)
       refine LoopG.mk (Nat × Int) (fun y => [(1, .ptr 1 b2 0), (3, .d (.list 4 (List.map LadderPair.enc ra2))), (5, .ptr 5 b5 0), (6, .ptr 6 b6 0), (7, .sl 122 hd29), (8, .d (I meet5)), (14, .d (I y.2))]) (fun y => [(1, .cells b2 [.d (.int .u8 c1.fForm), .d (I c1.fPlayers), .d (I c1.fGames), .nils 3]), (5, .cells b5 [.d (I players77.a0), .d (I players77.a1), .d (I players77.a2), .d (I players77.a3), .d (I players77.a4), .d (I players77.a5), .d (I players77.a6), .d (I players77.a7), .d (I players77.a8), .d (I players77.a9), .d (I players77.a10), .d (I players77.a11), .d (I players77.a12), .d (I players77.a13), .d (I players77.a14), .d (I players77.a15)]), (6, .cells b6 [.d (I matches77.a0), .d (I matches77.a1), .d (I matches77.a2), .d (I matches77.a3), .d (I matches77.a4), .d (I matches77.a5), .d (I matches77.a6), .d (I matches77.a7), .d (I matches77.a8), .d (I matches77.a9), .d (I matches77.a10), .d (I matches77.a11), .d (I matches77.a12), .d (I matches77.a13), .d (I matches77.a14), .d (I matches77.a15)]), (122, .arr hd29 3 1 false (List.map I l17))]) (fun y => loopN (fun rr x => law09LadderTree_b2 N c1 ra2 meet5 players77 matches77 l17 rr x) y.1 y.2 = some r) (fun y => y.1) (N, 0) h (Sub.eq rfl ?_ ?_) ?_
       ·(repeat ((conv=>whnf);refine nr ?_));exact trivial
       ·(conv=>whnf);refine no ?_;(conv=>whnf);refine no ?_;(conv=>whnf);refine no ?_;(conv=>whnf);refine no ?_;exact trivial
       ·rintro ⟨n7, k8⟩ hl3;obtain ⟨n7, rfl, hl3⟩ := loopN_some hl3;replace hl3 : law09LadderTree_b2 N c1 ra2 meet5 players77 matches77 l17 (loopN (fun rr x => law09LadderTree_b2 N c1 ra2 meet5 players77 matches77 l17 rr x) n7) k8 = some r := hl3;rw [law09LadderTree_b2] at hl3;(conv=>whnf);refine sr ?_;(conv=>whnf);refine Br.mk (fun hc4188 => ?_) (fun hc4188 => ?_)
        ·replace hl3 := ite_t hc4188 hl3;obtain ⟨v111, hx305, hl3⟩ := obind hl3;(conv=>whnf)
         refine SeqG.mk Unit (fun y => [(1, .ptr 1 b2 0), (3, .d (.list 4 (List.map LadderPair.enc ra2))), (5, .ptr 5 b5 0), (6, .ptr 6 b6 0), (7, .sl 122 hd29), (8, .d (I meet5)), (14, .d (I k8)), (150, .d (.bool v111))]) (fun y => [(1, .cells b2 [.d (.int .u8 c1.fForm), .d (I c1.fPlayers), .d (I c1.fGames), .nils 3]), (5, .cells b5 [.d (I players77.a0), .d (I players77.a1), .d (I players77.a2), .d (I players77.a3), .d (I players77.a4), .d (I players77.a5), .d (I players77.a6), .d (I players77.a7), .d (I players77.a8), .d (I players77.a9), .d (I players77.a10), .d (I players77.a11), .d (I players77.a12), .d (I players77.a13), .d (I players77.a14), .d (I players77.a15)]), (6, .cells b6 [.d (I matches77.a0), .d (I matches77.a1), .d (I matches77.a2), .d (I matches77.a3), .d (I matches77.a4), .d (I matches77.a5), .d (I matches77.a6), .d (I matches77.a7), .d (I matches77.a8), .d (I matches77.a9), .d (I matches77.a10), .d (I matches77.a11), .d (I matches77.a12), .d (I matches77.a13), .d (I matches77.a14), .d (I matches77.a15)]), (122, .arr hd29 3 1 false (List.map I l17))]) (fun _ => True) ?_ ?_
         ·rcases bcases (decide (k8 = 0)) with hc4334 | hc4334
          ·replace hx305 := ite_t hc4334 hx305;(conv=>whnf);refine IxG.mk 0 (of_decide_eq_true hc4334) (by decide) ?_;(conv=>whnf);refine sr ?_;(conv=>whnf);refine Br.mk (fun hc4350 => ?_) (fun hc4350 => ?_)
           ·replace hx305 := ite_f hc4350 hx305;(conv=>whnf);refine sr ?_;(conv=>whnf);refine Br.mk (fun hc4351 => ?_) (fun hc4351 => ?_)
            ·replace hx305 := ite_t hc4351 hx305;(conv=>whnf);refine IxG.mk 0 (of_decide_eq_true hc4334) (by decide) ?_;(conv=>whnf);refine sr ?_;cases hx305;(conv=>whnf);refine ⟨(), trivial, Sub.eq rfl ?_ ?_⟩
             ·(repeat ((conv=>whnf);refine nr ?_));exact trivial
             ·(conv=>whnf);refine no ?_;(conv=>whnf);refine no ?_;(conv=>whnf);refine no ?_;(conv=>whnf);refine no ?_;exact trivial
            ·replace hx305 := ite_f hc4351 hx305;cases hx305;(conv=>whnf);refine ⟨(), trivial, Sub.eq rfl ?_ ?_⟩
             ·(repeat ((conv=>whnf);refine nr ?_));exact trivial
             ·(conv=>whnf);refine no ?_;(conv=>whnf);refine no ?_;(conv=>whnf);refine no ?_;(conv=>whnf);refine no ?_;exact trivial
           ·replace hx305 := ite_t hc4350 hx305;cases hx305;(conv=>whnf);refine ⟨(), trivial, Sub.eq rfl ?_ ?_⟩
            ·(repeat ((conv=>whnf);refine nr ?_));exact trivial
            ·(conv=>whnf);refine no ?_;(conv=>whnf);refine no ?_;(conv=>whnf);refine no ?_;(conv=>whnf);refine no ?_;exact trivial
          ·replace hx305 := ite_f hc4334 hx305;rcases bcases (decide (k8 = 1)) with hc4335 | hc4335
           ·replace hx305 := ite_t hc4335 hx305;(conv=>whnf);refine IxG.mk 1 (of_decide_eq_true hc4335) (by decide) ?_;(conv=>whnf);refine sr ?_;(conv=>whnf);refine Br.mk (fun hc4352 => ?_) (fun hc4352 => ?_)
            ·replace hx305 := ite_f hc4352 hx305;(conv=>whnf);refine sr ?_;(conv=>whnf);refine Br.mk (fun hc4353 => ?_) (fun hc4353 => ?_)
             ·replace hx305 := ite_t hc4353 hx305;(conv=>whnf);refine IxG.mk 1 (of_decide_eq_true hc4335) (by decide) ?_;(conv=>whnf);refine sr ?_;cases hx305;(conv=>whnf);refine ⟨(), trivial, Sub.eq rfl ?_ ?_⟩
              ·(repeat ((conv=>whnf);refine nr ?_));exact trivial
              ·(conv=>whnf);refine no ?_;(conv=>whnf);refine no ?_;(conv=>whnf);refine no ?_;(conv=>whnf);refine no ?_;exact trivial
             ·replace hx305 := ite_f hc4353 hx305;cases hx305;(conv=>whnf);refine ⟨(), trivial, Sub.eq rfl ?_ ?_⟩
              ·(repeat ((conv=>whnf);refine nr ?_));exact trivial
              ·(conv=>whnf);refine no ?_;(conv=>whnf);refine no ?_;(conv=>whnf);refine no ?_;(conv=>whnf);refine no ?_;exact trivial
            ·replace hx305 := ite_t hc4352 hx305;cases hx305;(conv=>whnf);refine ⟨(), trivial, Sub.eq rfl ?_ ?_⟩
             ·(repeat ((conv=>whnf);refine nr ?_));exact trivial
             ·(conv=>whnf);refine no ?_;(conv=>whnf);refine no ?_;(conv=>whnf);refine no ?_;(conv=>whnf);refine no ?_;exact trivial
           ·replace hx305 := ite_f hc4335 hx305;rcases bcases (decide (k8 = 2)) with hc4336 | hc4336
            ·replace hx305 := ite_t hc4336 hx305;(conv=>whnf);refine IxG.mk 2 (of_decide_eq_true hc4336) (by decide) ?_;(conv=>whnf);refine sr ?_;(conv=>whnf);refine Br.mk (fun hc4354 => ?_) (fun hc4354 => ?_)
             ·replace hx305 := ite_f hc4354 hx305;(conv=>whnf);refine sr ?_;(conv=>whnf);refine Br.mk (fun hc4355 => ?_) (fun hc4355 => ?_)
              ·replace hx305 := ite_t hc4355 hx305;(conv=>whnf);refine IxG.mk 2 (of_decide_eq_true hc4336) (by decide) ?_;(conv=>whnf);refine sr ?_;cases hx305;(conv=>whnf);refine ⟨(), trivial, Sub.eq rfl ?_ ?_⟩
               ·(repeat ((conv=>whnf);refine nr ?_));exact trivial
               ·(conv=>whnf);refine no ?_;(conv=>whnf);refine no ?_;(conv=>whnf);refine no ?_;(conv=>whnf);refine no ?_;exact trivial
              ·replace hx305 := ite_f hc4355 hx305;cases hx305;(conv=>whnf);refine ⟨(), trivial, Sub.eq rfl ?_ ?_⟩
               ·(repeat ((conv=>whnf);refine nr ?_));exact trivial
               ·(conv=>whnf);refine no ?_;(conv=>whnf);refine no ?_;(conv=>whnf);refine no ?_;(conv=>whnf);refine no ?_;exact trivial
             ·replace hx305 := ite_t hc4354 hx305;cases hx305;(conv=>whnf);refine ⟨(), trivial, Sub.eq rfl ?_ ?_⟩
              ·(repeat ((conv=>whnf);refine nr ?_));exact trivial
              ·(conv=>whnf);refine no ?_;(conv=>whnf);refine no ?_;(conv=>whnf);refine no ?_;(conv=>whnf);refine no ?_;exact trivial
            ·replace hx305 := ite_f hc4336 hx305;rcases bcases (decide (k8 = 3)) with hc4337 | hc4337
             ·replace hx305 := ite_t hc4337 hx305;(conv=>whnf);refine IxG.mk 3 (of_decide_eq_true hc4337) (by decide) ?_;(conv=>whnf);refine sr ?_;(conv=>whnf);refine Br.mk (fun hc4356 => ?_) (fun hc4356 => ?_)
              ·replace hx305 := ite_f hc4356 hx305;(conv=>whnf);refine sr ?_;(conv=>whnf);refine Br.mk (fun hc4357 => ?_) (fun hc4357 => ?_)
               ·replace hx305 := ite_t hc4357 hx305;(conv=>whnf);refine IxG.mk 3 (of_decide_eq_true hc4337) (by decide) ?_;(conv=>whnf);refine sr ?_;cases hx305;(conv=>whnf);refine ⟨(), trivial, Sub.eq rfl ?_ ?_⟩
                ·(repeat ((conv=>whnf);refine nr ?_));exact trivial
                ·(conv=>whnf);refine no ?_;(conv=>whnf);refine no ?_;(conv=>whnf);refine no ?_;(conv=>whnf);refine no ?_;exact trivial
               ·replace hx305 := ite_f hc4357 hx305;cases hx305;(conv=>whnf);refine ⟨(), trivial, Sub.eq rfl ?_ ?_⟩
                ·(repeat ((conv=>whnf);refine nr ?_));exact trivial
                ·(conv=>whnf);refine no ?_;(conv=>whnf);refine no ?_;(conv=>whnf);refine no ?_;(conv=>whnf);refine no ?_;exact trivial
              ·replace hx305 := ite_t hc4356 hx305;cases hx305;(conv=>whnf);refine ⟨(), trivial, Sub.eq rfl ?_ ?_⟩
               ·(repeat ((conv=>whnf);refine nr ?_));exact trivial
               ·(conv=>whnf);refine no ?_;(conv=>whnf);refine no ?_;(conv=>whnf);refine no ?_;(conv=>whnf);refine no ?_;exact trivial
             ·replace hx305 := ite_f hc4337 hx305;rcases bcases (decide (k8 = 4)) with hc4338 | hc4338
              ·replace hx305 := ite_t hc4338 hx305;(conv=>whnf);refine IxG.mk 4 (of_decide_eq_true hc4338) (by decide) ?_;(conv=>whnf);refine sr ?_;(conv=>whnf);refine Br.mk (fun hc4358 => ?_) (fun hc4358 => ?_)
               ·replace hx305 := ite_f hc4358 hx305;(conv=>whnf);refine sr ?_;(conv=>whnf);refine Br.mk (fun hc4359 => ?_) (fun hc4359 => ?_)
                ·replace hx305 := ite_t hc4359 hx305;(conv=>whnf);refine IxG.mk 4 (of_decide_eq_true hc4338) (by decide) ?_;(conv=>whnf);refine sr ?_;cases hx305;(conv=>whnf);refine ⟨(), trivial, Sub.eq rfl ?_ ?_⟩
                 ·(repeat ((conv=>whnf);refine nr ?_));exact trivial
                 ·(conv=>whnf);refine no ?_;(conv=>whnf);refine no ?_;(conv=>whnf);refine no ?_;(conv=>whnf);refine no ?_;exact trivial
                ·replace hx305 := ite_f hc4359 hx305;cases hx305;(conv=>whnf);refine ⟨(), trivial, Sub.eq rfl ?_ ?_⟩
                 ·(repeat ((conv=>whnf);refine nr ?_));exact trivial
                 ·(conv=>whnf);refine no ?_;(conv=>whnf);refine no ?_;(conv=>whnf);refine no ?_;(conv=>whnf);refine no ?_;exact trivial
               ·replace hx305 := ite_t hc4358 hx305;cases hx305;(conv=>whnf);refine ⟨(), trivial, Sub.eq rfl ?_ ?_⟩
                ·(repeat ((conv=>whnf);refine nr ?_));exact trivial
                ·(conv=>whnf);refine no ?_;(conv=>whnf);refine no ?_;(conv=>whnf);refine no ?_;(conv=>whnf);refine no ?_;exact trivial
              ·replace hx305 := ite_f hc4338 hx305;rcases bcases (decide (k8 = 5)) with hc4339 | hc4339
               ·replace hx305 := ite_t hc4339 hx305;(conv=>whnf);refine IxG.mk 5 (of_decide_eq_true hc4339) (by decide) ?_;(conv=>whnf);refine sr ?_;(conv=>whnf);refine Br.mk (fun hc4360 => ?_) (fun hc4360 => ?_)
                ·replace hx305 := ite_f hc4360 hx305;(conv=>whnf);refine sr ?_;(conv=>whnf);refine Br.mk (fun hc4361 => ?_) (fun hc4361 => ?_)
                 ·replace hx305 := ite_t hc4361 hx305;(conv=>whnf);refine IxG.mk 5 (of_decide_eq_true hc4339) (by decide) ?_;(conv=>whnf);refine sr ?_;cases hx305;(conv=>whnf);refine ⟨(), trivial, Sub.eq rfl ?_ ?_⟩
                  ·(repeat ((conv=>whnf);refine nr ?_));exact trivial
                  ·(conv=>whnf);refine no ?_;(conv=>whnf);refine no ?_;(conv=>whnf);refine no ?_;(conv=>whnf);refine no ?_;exact trivial
                 ·replace hx305 := ite_f hc4361 hx305;cases hx305;(conv=>whnf);refine ⟨(), trivial, Sub.eq rfl ?_ ?_⟩
                  ·(repeat ((conv=>whnf);refine nr ?_));exact trivial
                  ·(conv=>whnf);refine no ?_;(conv=>whnf);refine no ?_;(conv=>whnf);refine no ?_;(conv=>whnf);refine no ?_;exact trivial
                ·replace hx305 := ite_t hc4360 hx305;cases hx305;(conv=>whnf);refine ⟨(), trivial, Sub.eq rfl ?_ ?_⟩
                 ·(repeat ((conv=>whnf);refine nr ?_));exact trivial
                 ·(conv=>whnf);refine no ?_;(conv=>whnf);refine no ?_;(conv=>whnf);refine no ?_;(conv=>whnf);refine no ?_;exact trivial
               ·replace hx305 := ite_f hc4339 hx305;rcases bcases (decide (k8 = 6)) with hc4340 | hc4340
                ·replace hx305 := ite_t hc4340 hx305;(conv=>whnf);refine IxG.mk 6 (of_decide_eq_true hc4340) (by decide) ?_;(conv=>whnf);refine sr ?_;(conv=>whnf);refine Br.mk (fun hc4362 => ?_) (fun hc4362 => ?_)
                 ·replace hx305 := ite_f hc4362 hx305;(conv=>whnf);refine sr ?_;(conv=>whnf);refine Br.mk (fun hc4363 => ?_) (fun hc4363 => ?_)
                  ·replace hx305 := ite_t hc4363 hx305;(conv=>whnf);refine IxG.mk 6 (of_decide_eq_true hc4340) (by decide) ?_;(conv=>whnf);refine sr ?_;cases hx305;(conv=>whnf);refine ⟨(), trivial, Sub.eq rfl ?_ ?_⟩
                   ·(repeat ((conv=>whnf);refine nr ?_));exact trivial
                   ·(conv=>whnf);refine no ?_;(conv=>whnf);refine no ?_;(conv=>whnf);refine no ?_;(conv=>whnf);refine no ?_;exact trivial
                  ·replace hx305 := ite_f hc4363 hx305;cases hx305;(conv=>whnf);refine ⟨(), trivial, Sub.eq rfl ?_ ?_⟩
                   ·(repeat ((conv=>whnf);refine nr ?_));exact trivial
                   ·(conv=>whnf);refine no ?_;(conv=>whnf);refine no ?_;(conv=>whnf);refine no ?_;(conv=>whnf);refine no ?_;exact trivial
                 ·replace hx305 := ite_t hc4362 hx305;cases hx305;(conv=>whnf);refine ⟨(), trivial, Sub.eq rfl ?_ ?_⟩
                  ·(repeat ((conv=>whnf);refine nr ?_));exact trivial
                  ·(conv=>whnf);refine no ?_;(conv=>whnf);refine no ?_;(conv=>whnf);refine no ?_;(conv=>whnf);refine no ?_;exact trivial
                ·replace hx305 := ite_f hc4340 hx305;rcases bcases (decide (k8 = 7)) with hc4341 | hc4341
                 ·replace hx305 := ite_t hc4341 hx305;(conv=>whnf);refine IxG.mk 7 (of_decide_eq_true hc4341) (by decide) ?_;(conv=>whnf);refine sr ?_;(conv=>whnf);refine Br.mk (fun hc4364 => ?_) (fun hc4364 => ?_)
                  ·replace hx305 := ite_f hc4364 hx305;(conv=>whnf);refine sr ?_;(conv=>whnf);refine Br.mk (fun hc4365 => ?_) (fun hc4365 => ?_)
                   ·replace hx305 := ite_t hc4365 hx305;(conv=>whnf);refine IxG.mk 7 (of_decide_eq_true hc4341) (by decide) ?_;(conv=>whnf);refine sr ?_;cases hx305;(conv=>whnf);refine ⟨(), trivial, Sub.eq rfl ?_ ?_⟩
                    ·(repeat ((conv=>whnf);refine nr ?_));exact trivial
                    ·(conv=>whnf);refine no ?_;(conv=>whnf);refine no ?_;(conv=>whnf);refine no ?_;(conv=>whnf);refine no ?_;exact trivial
                   ·replace hx305 := ite_f hc4365 hx305;cases hx305;(conv=>whnf);refine ⟨(), trivial, Sub.eq rfl ?_ ?_⟩
                    ·(repeat ((conv=>whnf);refine nr ?_));exact trivial
                    ·(conv=>whnf);refine no ?_;(conv=>whnf);refine no ?_;(conv=>whnf);refine no ?_;(conv=>whnf);refine no ?_;exact trivial
                  ·replace hx305 := ite_t hc4364 hx305;cases hx305;(conv=>whnf);refine ⟨(), trivial, Sub.eq rfl ?_ ?_⟩
                   ·(repeat ((conv=>whnf);refine nr ?_));exact trivial
                   ·(conv=>whnf);refine no ?_;(conv=>whnf);refine no ?_;(conv=>whnf);refine no ?_;(conv=>whnf);refine no ?_;exact trivial
                 ·replace hx305 := ite_f hc4341 hx305;rcases bcases (decide (k8 = 8)) with hc4342 | hc4342
                  ·replace hx305 := ite_t hc4342 hx305;(conv=>whnf);refine IxG.mk 8 (of_decide_eq_true hc4342) (by decide) ?_;(conv=>whnf);refine sr ?_;(conv=>whnf);refine Br.mk (fun hc4366 => ?_) (fun hc4366 => ?_)
                   ·replace hx305 := ite_f hc4366 hx305;(conv=>whnf);refine sr ?_;(conv=>whnf);refine Br.mk (fun hc4367 => ?_) (fun hc4367 => ?_)
                    ·replace hx305 := ite_t hc4367 hx305;(conv=>whnf);refine IxG.mk 8 (of_decide_eq_true hc4342) (by decide) ?_;(conv=>whnf);refine sr ?_;cases hx305;(conv=>whnf);refine ⟨(), trivial, Sub.eq rfl ?_ ?_⟩
                     ·(repeat ((conv=>whnf);refine nr ?_));exact trivial
                     ·(conv=>whnf);refine no ?_;(conv=>whnf);refine no ?_;(conv=>whnf);refine no ?_;(conv=>whnf);refine no ?_;exact trivial
                    ·replace hx305 := ite_f hc4367 hx305;cases hx305;(conv=>whnf);refine ⟨(), trivial, Sub.eq rfl ?_ ?_⟩
                     ·(repeat ((conv=>whnf);refine nr ?_));exact trivial
                     ·(conv=>whnf);refine no ?_;(conv=>whnf);refine no ?_;(conv=>whnf);refine no ?_;(conv=>whnf);refine no ?_;exact trivial
                   ·replace hx305 := ite_t hc4366 hx305;cases hx305;(conv=>whnf);refine ⟨(), trivial, Sub.eq rfl ?_ ?_⟩
                    ·(repeat ((conv=>whnf);refine nr ?_));exact trivial
                    ·(conv=>whnf);refine no ?_;(conv=>whnf);refine no ?_;(conv=>whnf);refine no ?_;(conv=>whnf);refine no ?_;exact trivial
                  ·replace hx305 := ite_f hc4342 hx305;rcases bcases (decide (k8 = 9)) with hc4343 | hc4343
                   ·replace hx305 := ite_t hc4343 hx305;(conv=>whnf);refine IxG.mk 9 (of_decide_eq_true hc4343) (by decide) ?_;(conv=>whnf);refine sr ?_;(conv=>whnf);refine Br.mk (fun hc4368 => ?_) (fun hc4368 => ?_)
                    ·replace hx305 := ite_f hc4368 hx305;(conv=>whnf);refine sr ?_;(conv=>whnf);refine Br.mk (fun hc4369 => ?_) (fun hc4369 => ?_)
                     ·replace hx305 := ite_t hc4369 hx305;(conv=>whnf);refine IxG.mk 9 (of_decide_eq_true hc4343) (by decide) ?_;(conv=>whnf);refine sr ?_;cases hx305;(conv=>whnf);refine ⟨(), trivial, Sub.eq rfl ?_ ?_⟩
                      ·(repeat ((conv=>whnf);refine nr ?_));exact trivial
                      ·(conv=>whnf);refine no ?_;(conv=>whnf);refine no ?_;(conv=>whnf);refine no ?_;(conv=>whnf);refine no ?_;exact trivial
                     ·replace hx305 := ite_f hc4369 hx305;cases hx305;(conv=>whnf);refine ⟨(), trivial, Sub.eq rfl ?_ ?_⟩
                      ·(repeat ((conv=>whnf);refine nr ?_));exact trivial
                      ·(conv=>whnf);refine no ?_;(conv=>whnf);refine no ?_;(conv=>whnf);refine no ?_;(conv=>whnf);refine no ?_;exact trivial
                    ·replace hx305 := ite_t hc4368 hx305;cases hx305;(conv=>whnf);refine ⟨(), trivial, Sub.eq rfl ?_ ?_⟩
                     ·(repeat ((conv=>whnf);refine nr ?_));exact trivial
                     ·(conv=>whnf);refine no ?_;(conv=>whnf);refine no ?_;(conv=>whnf);refine no ?_;(conv=>whnf);refine no ?_;exact trivial
                   ·replace hx305 := ite_f hc4343 hx305;rcases bcases (decide (k8 = 10)) with hc4344 | hc4344
                    ·replace hx305 := ite_t hc4344 hx305;(conv=>whnf);refine IxG.mk 10 (of_decide_eq_true hc4344) (by decide) ?_;(conv=>whnf);refine sr ?_;(conv=>whnf);refine Br.mk (fun hc4370 => ?_) (fun hc4370 => ?_)
                     ·replace hx305 := ite_f hc4370 hx305;(conv=>whnf);refine sr ?_;(conv=>whnf);refine Br.mk (fun hc4371 => ?_) (fun hc4371 => ?_)
                      ·replace hx305 := ite_t hc4371 hx305;(conv=>whnf);refine IxG.mk 10 (of_decide_eq_true hc4344) (by decide) ?_;(conv=>whnf);refine sr ?_;cases hx305;(conv=>whnf);refine ⟨(), trivial, Sub.eq rfl ?_ ?_⟩
                       ·(repeat ((conv=>whnf);refine nr ?_));exact trivial
                       ·(conv=>whnf);refine no ?_;(conv=>whnf);refine no ?_;(conv=>whnf);refine no ?_;(conv=>whnf);refine no ?_;exact trivial
                      ·replace hx305 := ite_f hc4371 hx305;cases hx305;(conv=>whnf);refine ⟨(), trivial, Sub.eq rfl ?_ ?_⟩
                       ·(repeat ((conv=>whnf);refine nr ?_));exact trivial
                       ·(conv=>whnf);refine no ?_;(conv=>whnf);refine no ?_;(conv=>whnf);refine no ?_;(conv=>whnf);refine no ?_;exact trivial
                     ·replace hx305 := ite_t hc4370 hx305;cases hx305;(conv=>whnf);refine ⟨(), trivial, Sub.eq rfl ?_ ?_⟩
                      ·(repeat ((conv=>whnf);refine nr ?_));exact trivial
                      ·(conv=>whnf);refine no ?_;(conv=>whnf);refine no ?_;(conv=>whnf);refine no ?_;(conv=>whnf);refine no ?_;exact trivial
                    ·replace hx305 := ite_f hc4344 hx305;rcases bcases (decide (k8 = 11)) with hc4345 | hc4345
                     ·replace hx305 := ite_t hc4345 hx305;(conv=>whnf);refine IxG.mk 11 (of_decide_eq_true hc4345) (by decide) ?_;(conv=>whnf);refine sr ?_;(conv=>whnf);refine Br.mk (fun hc4372 => ?_) (fun hc4372 => ?_)
                      ·replace hx305 := ite_f hc4372 hx305;(conv=>whnf);refine sr ?_;(conv=>whnf);refine Br.mk (fun hc4373 => ?_) (fun hc4373 => ?_)
                       ·replace hx305 := ite_t hc4373 hx305;(conv=>whnf);refine IxG.mk 11 (of_decide_eq_true hc4345) (by decide) ?_;(conv=>whnf);refine sr ?_;cases hx305;(conv=>whnf);refine ⟨(), trivial, Sub.eq rfl ?_ ?_⟩
                        ·(repeat ((conv=>whnf);refine nr ?_));exact trivial
                        ·(conv=>whnf);refine no ?_;(conv=>whnf);refine no ?_;(conv=>whnf);refine no ?_;(conv=>whnf);refine no ?_;exact trivial
                       ·replace hx305 := ite_f hc4373 hx305;cases hx305;(conv=>whnf);refine ⟨(), trivial, Sub.eq rfl ?_ ?_⟩
                        ·(repeat ((conv=>whnf);refine nr ?_));exact trivial
                        ·(conv=>whnf);refine no ?_;(conv=>whnf);refine no ?_;(conv=>whnf);refine no ?_;(conv=>whnf);refine no ?_;exact trivial
                      ·replace hx305 := ite_t hc4372 hx305;cases hx305;(conv=>whnf);refine ⟨(), trivial, Sub.eq rfl ?_ ?_⟩
                       ·(repeat ((conv=>whnf);refine nr ?_));exact trivial
                       ·(conv=>whnf);refine no ?_;(conv=>whnf);refine no ?_;(conv=>whnf);refine no ?_;(conv=>whnf);refine no ?_;exact trivial
                     ·replace hx305 := ite_f hc4345 hx305;rcases bcases (decide (k8 = 12)) with hc4346 | hc4346
                      ·replace hx305 := ite_t hc4346 hx305;(conv=>whnf);refine IxG.mk 12 (of_decide_eq_true hc4346) (by decide) ?_;(conv=>whnf);refine sr ?_;(conv=>whnf);refine Br.mk (fun hc4374 => ?_) (fun hc4374 => ?_)
                       ·replace hx305 := ite_f hc4374 hx305;(conv=>whnf);refine sr ?_;(conv=>whnf);refine Br.mk (fun hc4375 => ?_) (fun hc4375 => ?_)
                        ·replace hx305 := ite_t hc4375 hx305;(conv=>whnf);refine IxG.mk 12 (of_decide_eq_true hc4346) (by decide) ?_;(conv=>whnf);refine sr ?_;cases hx305;(conv=>whnf);refine ⟨(), trivial, Sub.eq rfl ?_ ?_⟩
                         ·(repeat ((conv=>whnf);refine nr ?_));exact trivial
                         ·(conv=>whnf);refine no ?_;(conv=>whnf);refine no ?_;(conv=>whnf);refine no ?_;(conv=>whnf);refine no ?_;exact trivial
                        ·replace hx305 := ite_f hc4375 hx305;cases hx305;(conv=>whnf);refine ⟨(), trivial, Sub.eq rfl ?_ ?_⟩
                         ·(repeat ((conv=>whnf);refine nr ?_));exact trivial
                         ·(conv=>whnf);refine no ?_;(conv=>whnf);refine no ?_;(conv=>whnf);refine no ?_;(conv=>whnf);refine no ?_;exact trivial
                       ·replace hx305 := ite_t hc4374 hx305;cases hx305;(conv=>whnf);refine ⟨(), trivial, Sub.eq rfl ?_ ?_⟩
                        ·(repeat ((conv=>whnf);refine nr ?_));exact trivial
                        ·(conv=>whnf);refine no ?_;(conv=>whnf);refine no ?_;(conv=>whnf);refine no ?_;(conv=>whnf);refine no ?_;exact trivial
                      ·replace hx305 := ite_f hc4346 hx305;rcases bcases (decide (k8 = 13)) with hc4347 | hc4347
                       ·replace hx305 := ite_t hc4347 hx305;(conv=>whnf);refine IxG.mk 13 (of_decide_eq_true hc4347) (by decide) ?_;(conv=>whnf);refine sr ?_;(conv=>whnf);refine Br.mk (fun hc4376 => ?_) (fun hc4376 => ?_)
                        ·replace hx305 := ite_f hc4376 hx305;(conv=>whnf);refine sr ?_;(conv=>whnf);refine Br.mk (fun hc4377 => ?_) (fun hc4377 => ?_)
                         ·replace hx305 := ite_t hc4377 hx305;(conv=>whnf);refine IxG.mk 13 (of_decide_eq_true hc4347) (by decide) ?_;(conv=>whnf);refine sr ?_;cases hx305;(conv=>whnf);refine ⟨(), trivial, Sub.eq rfl ?_ ?_⟩
                          ·(repeat ((conv=>whnf);refine nr ?_));exact trivial
                          ·(conv=>whnf);refine no ?_;(conv=>whnf);refine no ?_;(conv=>whnf);refine no ?_;(conv=>whnf);refine no ?_;exact trivial
                         ·replace hx305 := ite_f hc4377 hx305;cases hx305;(conv=>whnf);refine ⟨(), trivial, Sub.eq rfl ?_ ?_⟩
                          ·(repeat ((conv=>whnf);refine nr ?_));exact trivial
                          ·(conv=>whnf);refine no ?_;(conv=>whnf);refine no ?_;(conv=>whnf);refine no ?_;(conv=>whnf);refine no ?_;exact trivial
                        ·replace hx305 := ite_t hc4376 hx305;cases hx305;(conv=>whnf);refine ⟨(), trivial, Sub.eq rfl ?_ ?_⟩
                         ·(repeat ((conv=>whnf);refine nr ?_));exact trivial
                         ·(conv=>whnf);refine no ?_;(conv=>whnf);refine no ?_;(conv=>whnf);refine no ?_;(conv=>whnf);refine no ?_;exact trivial
                       ·replace hx305 := ite_f hc4347 hx305;rcases bcases (decide (k8 = 14)) with hc4348 | hc4348
                        ·replace hx305 := ite_t hc4348 hx305;(conv=>whnf);refine IxG.mk 14 (of_decide_eq_true hc4348) (by decide) ?_;(conv=>whnf);refine sr ?_;(conv=>whnf);refine Br.mk (fun hc4378 => ?_) (fun hc4378 => ?_)
                         ·replace hx305 := ite_f hc4378 hx305;(conv=>whnf);refine sr ?_;(conv=>whnf);refine Br.mk (fun hc4379 => ?_) (fun hc4379 => ?_)
                          ·replace hx305 := ite_t hc4379 hx305;(conv=>whnf);refine IxG.mk 14 (of_decide_eq_true hc4348) (by decide) ?_;(conv=>whnf);refine sr ?_;cases hx305;(conv=>whnf);refine ⟨(), trivial, Sub.eq rfl ?_ ?_⟩
                           ·(repeat ((conv=>whnf);refine nr ?_));exact trivial
                           ·(conv=>whnf);refine no ?_;(conv=>whnf);refine no ?_;(conv=>whnf);refine no ?_;(conv=>whnf);refine no ?_;exact trivial
                          ·replace hx305 := ite_f hc4379 hx305;cases hx305;(conv=>whnf);refine ⟨(), trivial, Sub.eq rfl ?_ ?_⟩
                           ·(repeat ((conv=>whnf);refine nr ?_));exact trivial
                           ·(conv=>whnf);refine no ?_;(conv=>whnf);refine no ?_;(conv=>whnf);refine no ?_;(conv=>whnf);refine no ?_;exact trivial
                         ·replace hx305 := ite_t hc4378 hx305;cases hx305;(conv=>whnf);refine ⟨(), trivial, Sub.eq rfl ?_ ?_⟩
                          ·(repeat ((conv=>whnf);refine nr ?_));exact trivial
                          ·(conv=>whnf);refine no ?_;(conv=>whnf);refine no ?_;(conv=>whnf);refine no ?_;(conv=>whnf);refine no ?_;exact trivial
                        ·replace hx305 := ite_f hc4348 hx305;rcases bcases (decide (k8 = 15)) with hc4349 | hc4349
                         ·replace hx305 := ite_t hc4349 hx305;(conv=>whnf);refine IxG.mk 15 (of_decide_eq_true hc4349) (by decide) ?_;(conv=>whnf);refine sr ?_;(conv=>whnf);refine Br.mk (fun hc4380 => ?_) (fun hc4380 => ?_)
                          ·replace hx305 := ite_f hc4380 hx305;(conv=>whnf);refine sr ?_;(conv=>whnf);refine Br.mk (fun hc4381 => ?_) (fun hc4381 => ?_)
                           ·replace hx305 := ite_t hc4381 hx305;(conv=>whnf);refine IxG.mk 15 (of_decide_eq_true hc4349) (by decide) ?_;(conv=>whnf);refine sr ?_;cases hx305;(conv=>whnf);refine ⟨(), trivial, Sub.eq rfl ?_ ?_⟩
                            ·(repeat ((conv=>whnf);refine nr ?_));exact trivial
                            ·(conv=>whnf);refine no ?_;(conv=>whnf);refine no ?_;(conv=>whnf);refine no ?_;(conv=>whnf);refine no ?_;exact trivial
                           ·replace hx305 := ite_f hc4381 hx305;cases hx305;(conv=>whnf);refine ⟨(), trivial, Sub.eq rfl ?_ ?_⟩
                            ·(repeat ((conv=>whnf);refine nr ?_));exact trivial
                            ·(conv=>whnf);refine no ?_;(conv=>whnf);refine no ?_;(conv=>whnf);refine no ?_;(conv=>whnf);refine no ?_;exact trivial
                          ·replace hx305 := ite_t hc4380 hx305;cases hx305;(conv=>whnf);refine ⟨(), trivial, Sub.eq rfl ?_ ?_⟩
                           ·(repeat ((conv=>whnf);refine nr ?_));exact trivial
                           ·(conv=>whnf);refine no ?_;(conv=>whnf);refine no ?_;(conv=>whnf);refine no ?_;(conv=>whnf);refine no ?_;exact trivial
                         ·replace hx305 := ite_f hc4349 hx305;cases hx305
         ·rintro _ _;(conv=>whnf);refine Br.mk (fun hc4382 => ?_) (fun hc4382 => ?_)
          ·replace hl3 := ite_t hc4382 hl3;(conv=>whnf);cases hl3;exact rfl
          ·replace hl3 := ite_f hc4382 hl3;(conv=>whnf);refine ⟨(n7, w64 (k8 + 1)), hl3, Sub.eq rfl ?_ ?_, Nat.lt_succ_self _⟩
           ·(repeat ((conv=>whnf);refine nr ?_));exact trivial
           ·(conv=>whnf);refine no ?_;(conv=>whnf);refine no ?_;(conv=>whnf);refine no ?_;(conv=>whnf);refine no ?_;exact trivial
        ·replace hl3 := ite_f hc4188 hl3;(conv=>whnf);refine ⟨(), hl3, Sub.eq rfl ?_ ?_⟩
         ·(repeat ((conv=>whnf);refine nr ?_));exact trivial
         ·(conv=>whnf);refine no ?_;(conv=>whnf);refine no ?_;exact trivial
      ·clear h;rintro _ h;unfold law09LadderTree_k1 at h;(conv=>whnf);refine LnA.mk _ (List.length_map _) ?_;obtain ⟨x62, hx292, h⟩ := obind h;(conv=>whnf);refine Side.mk rfl ⟨_, idx_0 hx292, idx_map _ hx292, ?_⟩;(conv=>whnf);intro b152;(conv=>whnf);refine sr ?_;obtain ⟨v105, hx296, h⟩ := obind h;(conv=>whnf);refine SeqG.mk Unit (fun y => [(2, .d (.bool v105))]) (fun y => []) (fun _ => True) ?_ ?_
       ·(conv=>whnf);refine Side.mk rfl (LnA.mk _ (List.length_map _) ?_);obtain ⟨x64, hx297, hx296⟩ := obind hx296;(conv=>whnf);refine Side.mk ⟨rfl, rfl⟩ (Need.mk (idx_need _ hx297) ?_);(conv=>whnf);refine Side.mk ⟨rfl, rfl⟩ ⟨_, Int.natCast_nonneg _, idx_el _ hx297, ?_⟩;(conv=>whnf);refine Br.mk (fun hc3975 => ?_) (fun hc3975 => ?_)
        ·replace hx296 := ite_t hc3975 hx296;(conv=>whnf);refine Br.mk (fun hc3976 => ?_) (fun hc3976 => ?_)
         ·replace hx296 := ite_t hc3976 hx296;(conv=>whnf);refine sr ?_;(conv=>whnf);refine Br.mk (fun hc3977 => ?_) (fun hc3977 => ?_)
          ·replace hx296 := ite_f hc3977 hx296;(conv=>whnf);refine sr ?_;(conv=>whnf);refine Need.mk ⟨rfl, rfl⟩ (EqB.mk _ (LadderSide.eqc x62.fFirst ((LadderSide.mk 0 (-1)))) ?_);(conv=>whnf);refine Br.mk (fun hc3978 => ?_) (fun hc3978 => ?_)
           ·replace hx296 := ite_t hc3978 hx296;obtain ⟨r13, hx298, hx296⟩ := obind hx296;(conv=>whnf);refine CallG.pure _ (law09WakesC hN hx298) ?_;cases hx296;(conv=>whnf);refine ⟨(), trivial, Sub.eq rfl ?_ ?_⟩
            ·(repeat ((conv=>whnf);refine nr ?_));exact trivial
            ·exact trivial
           ·replace hx296 := ite_f hc3978 hx296;cases hx296;(conv=>whnf);refine ⟨(), trivial, Sub.eq rfl ?_ ?_⟩
            ·(repeat ((conv=>whnf);refine nr ?_));exact trivial
            ·exact trivial
          ·replace hx296 := ite_t hc3977 hx296;obtain ⟨r14, hx299, hx296⟩ := obind hx296;(conv=>whnf);refine CallG.pure _ (law09WakesC hN hx299) ?_;cases hx296;(conv=>whnf);refine ⟨(), trivial, Sub.eq rfl ?_ ?_⟩
           ·(repeat ((conv=>whnf);refine nr ?_));exact trivial
           ·exact trivial
         ·replace hx296 := ite_f hc3976 hx296;cases hx296;(conv=>whnf);refine ⟨(), trivial, Sub.eq rfl ?_ ?_⟩
          ·(repeat ((conv=>whnf);refine nr ?_));exact trivial
          ·exact trivial
        ·replace hx296 := ite_f hc3975 hx296;cases hx296;(conv=>whnf);refine ⟨(), trivial, Sub.eq rfl ?_ ?_⟩
         ·(repeat ((conv=>whnf);refine nr ?_));exact trivial
         ·exact trivial
       ·rintro _ _;(conv=>whnf);cases h;exact rfl
end Go.Proofs.Ytbceakhnnnfiaaa
