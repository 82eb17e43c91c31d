/-
  The walk of the law LadderTrees.
-/
import Derived.Test.YtbceakhnnnfiaaaDLadderTrees
import Derived.Test.YtbceakhnnnfiaaaWe
import Derived.Test.YtbceakhnnnfiaaaVc
import Derived.Test.YtbceakhnnnfiaaaVd
import Derived.Test.YtbceakhnnnfiaaaVe
import Derived.Test.YtbceakhnnnfiaaaVf
import Derived.Test.YtbceakhnnnfiaaaVi
import Derived.Test.YtbceakhnnnfiaaaVo
import Derived.Test.YtbceakhnnnfiaaaVp
namespace Go.Proofs.Ytbceakhnnnfiaaa
open Go Go.Abs Go.Kp
set_option maxRecDepth 100000
set_option maxHeartbeats 8000000
set_option linter.all false

theorem law09LadderTreesC {N : Nat} (hN : N ≤ 1073741824) {c1 : Ref09Cup} {r : Bool} (h : law09LadderTrees N c1 = some r) :
    ACalls Try.prog 10 [.d (.agg [.int .u8 c1.fForm, I c1.fPlayers, I c1.fGames, .list 3 (List.map Ref09Result.enc c1.fResults)])] [] fun e os => e = .ret (.d (.bool r)) ∧ os = [] := by
  refine acalls_f (fresh := false) tt_ok dr_ok ⟨[1], [], [], [], [8, 10, 15, 16, 1012], 0, []⟩ Try.func10 rfl Try.call10 rfl ?_
  unfold law09LadderTrees at h
  obtain ⟨r6, hx6, h⟩ := obind h;(conv=>whnf);refine CallG.pure _ (law09ThinC hN hx6) ?_;(conv=>whnf);refine Br.mk (fun hc2 => ?_) (fun hc2 => ?_)
  ·replace h := ite_t hc2 h;obtain ⟨r8, hx8, h⟩ := obind h;(conv=>whnf);refine CallG.pure _ (law09WakesC hN hx8) ?_;(conv=>whnf);cases h;exact rfl
  ·replace h := ite_f hc2 h;obtain ⟨r11, hx11, h⟩ := obind h;(conv=>whnf);refine CallG.pure _ (law09CupC hN hx11) ?_;obtain ⟨r12, hx12, h⟩ := obind h;(conv=>whnf);refine CallG.pure _ (ladderCheckCupC hN hx12) ?_;obtain ⟨r14, hx15, h⟩ := obind h;(conv=>whnf);refine CallG.pure _ (law09CupC hN hx15) ?_;obtain ⟨⟨ra2, rb2⟩, hx16, h⟩ := obind h;(conv=>whnf);refine CallG.pure _ (ladderTreeC hN hx16) ?_;obtain ⟨r18, hx20, h⟩ := obind h;(conv=>whnf);refine CallG.pure _ (law09FaultC hN hx20) ?_;(conv=>whnf);refine Br.mk (fun hc4 => ?_) (fun hc4 => ?_)
   ·replace h := ite_t hc4 h;(conv=>whnf);cases h;exact rfl
   ·replace h := ite_f hc4 h;obtain ⟨r24, hx27, h⟩ := obind h;(conv=>whnf);refine CallG.pure _ (ref09IsFormC hN hx27) ?_;(conv=>whnf);refine Br.mk (fun hc10 => ?_) (fun hc10 => ?_)
    ·replace h := ite_t hc10 h;obtain ⟨v2, hx29, h⟩ := obind h;(conv=>whnf);refine SeqG.mk Unit (fun y => [(2, .d (.bool v2))]) (fun y => []) (fun _ => True) ?_ ?_
     ·(conv=>whnf);refine Br.mk (fun hc13 => ?_) (fun hc13 => ?_)
      ·replace hx29 := ite_t hc13 hx29;(conv=>whnf);refine LnA.mk _ (List.length_map _) ?_;(conv=>whnf);refine Br.mk (fun hc14 => ?_) (fun hc14 => ?_)
       ·replace hx29 := ite_t hc14 hx29;obtain ⟨r26, hx30, hx29⟩ := obind hx29;(conv=>whnf);refine CallG.pure _ (law09WakesC hN hx30) ?_;cases hx29;(conv=>whnf);refine ⟨(), trivial, Sub.eq rfl ?_ ?_⟩
        ·(repeat ((conv=>whnf);refine nr ?_));exact trivial
        ·exact trivial
       ·replace hx29 := ite_f hc14 hx29;cases hx29;(conv=>whnf);refine ⟨(), trivial, Sub.eq rfl ?_ ?_⟩
        ·(repeat ((conv=>whnf);refine nr ?_));exact trivial
        ·exact trivial
      ·replace hx29 := ite_f hc13 hx29;cases hx29;(conv=>whnf);refine ⟨(), trivial, Sub.eq rfl ?_ ?_⟩
       ·(repeat ((conv=>whnf);refine nr ?_));exact trivial
       ·exact trivial
     ·rintro _ _;(conv=>whnf);cases h;exact rfl
    ·replace h := ite_f hc10 h;obtain ⟨r28, hx32, h⟩ := obind h;(conv=>whnf);refine CallG.pure _ (ref09TreeC hN hx32) ?_;obtain ⟨v4, hx34, h⟩ := obind h;(conv=>whnf);refine SeqG.mk Unit (fun y => [(4, .d (.list 4 (List.map LadderPair.enc ra2))), (6, .d (.list 4 (List.map Ref09Pair.enc r28))), (50, .d (.bool v4))]) (fun y => []) (fun _ => True) ?_ ?_
     ·(conv=>whnf);refine Br.mk (fun hc19 => ?_) (fun hc19 => ?_)
      ·replace hx34 := ite_f hc19 hx34;(conv=>whnf);refine LnA.mk _ (List.length_map _) ?_;(conv=>whnf);refine LnA.mk _ (List.length_map _) ?_;cases hx34;(conv=>whnf);refine ⟨(), trivial, Sub.eq rfl ?_ ?_⟩
       ·(repeat ((conv=>whnf);refine nr ?_));exact trivial
       ·exact trivial
      ·replace hx34 := ite_t hc19 hx34;cases hx34;(conv=>whnf);refine ⟨(), trivial, Sub.eq rfl ?_ ?_⟩
       ·(repeat ((conv=>whnf);refine nr ?_));exact trivial
       ·exact trivial
     ·rintro _ _;(conv=>whnf);refine Br.mk (fun hc20 => ?_) (fun hc20 => ?_)
      ·replace h := ite_t hc20 h;(conv=>whnf);cases h;exact rfl
      ·replace h := ite_f hc20 h;(conv=>whnf);refine SeqG.mk Unit (fun y => []) (fun y => []) (fun y => law09LadderTrees_k1 N = some r) ?_ ?_
       ·(conv=>whnf);refine LoopG.mk (Nat × Int) (fun y => [(4, .d (.list 4 (List.map LadderPair.enc ra2))), (6, .d (.list 4 (List.map Ref09Pair.enc r28))), (7, .d (I y.2))]) (fun y => []) (fun y => loopN (fun rr x => law09LadderTrees_b2 N ra2 r28 rr x) y.1 y.2 = some r) (fun y => y.1) (N, 0) h (Sub.eq rfl ?_ ?_) ?_
        ·(repeat ((conv=>whnf);refine nr ?_));exact trivial
        ·exact trivial
        ·rintro ⟨n2, i8⟩ hl2;obtain ⟨n2, rfl, hl2⟩ := loopN_some hl2;replace hl2 : law09LadderTrees_b2 N ra2 r28 (loopN (fun rr x => law09LadderTrees_b2 N ra2 r28 rr x) n2) i8 = some r := hl2;rw [law09LadderTrees_b2] at hl2;(conv=>whnf);refine LnA.mk _ (List.length_map _) ?_;(conv=>whnf);refine Br.mk (fun hc102 => ?_) (fun hc102 => ?_)
         ·replace hl2 := ite_t hc102 hl2;obtain ⟨⟨a12, b150⟩, hx104, hl2⟩ := obind hl2;(conv=>whnf);refine SeqG.mk (Nat × Nat) (fun y => [(4, .d (.list 4 (List.map LadderPair.enc ra2))), (6, .d (.list 4 (List.map Ref09Pair.enc r28))), (7, .d (I i8)), (8, .ptr 8 y.1 0), (9, .ptr 9 y.2 0)]) (fun y => [(8, .cells y.1 [.d (I a12.fPlayer), .d (I a12.fMatch)]), (9, .cells y.2 [.d (I b150.fPlayer), .d (I b150.fMatch)])]) (fun _ => True) ?_ ?_
          ·obtain ⟨x46, hx105, hx104⟩ := obind hx104;(conv=>whnf);refine DrawG.mk (.take 0 (.take 1 (.take 2 (.take 3 (.take 4 (.take 5 (.take 6 (.take 7 (.take 8 (.take 9 (.alt 10 [9, 8, 7, 6, 5, 4, 3, 2, 1, 0] (.alt 11 [9, 8, 7, 6, 5, 4, 3, 2, 1, 0] (.alt 12 [9, 8, 7, 6, 5] (.alt 13 [] .done .nil) .nil) .nil) (.alt 11 [9, 8, 7, 6, 5, 4, 3, 2, 1, 0] (.alt 10 [9, 8, 7, 6, 5, 4, 3, 2, 1, 0] (.alt 12 [9, 8, 7, 6, 5] (.alt 13 [] .done .nil) .nil) .nil) .nil)))))))))))) (by kernel_rfl) ?_;(conv=>whnf);refine Side.mk rfl ⟨_, idx_0 hx105, idx_map _ hx105, ?_⟩;(conv=>whnf);refine Side.mk rfl ⟨_, idx_0 hx105, idx_map _ hx105, ?_⟩;(conv=>whnf);refine Both.mk ?_ ?_
           ·(conv=>whnf);intro b153;(conv=>whnf);refine nl ?_;(conv=>whnf);refine nl ?_;(conv=>whnf);refine Side.mk rfl ⟨_, idx_0 hx105, idx_map _ hx105, ?_⟩;(conv=>whnf);refine nl ?_;(conv=>whnf);refine nl ?_;(conv=>whnf);refine nl ?_;(conv=>whnf);refine nl ?_;(conv=>whnf);refine nl ?_;(conv=>whnf);refine Side.mk rfl ⟨_, idx_0 hx105, idx_map _ hx105, ?_⟩;(conv=>whnf);refine nl ?_;(conv=>whnf);refine nl ?_;(conv=>whnf);refine nl ?_;(conv=>whnf);refine Both.mk ?_ trivial;(conv=>whnf);intro b154;(conv=>whnf);refine nl ?_;(conv=>whnf);refine nl ?_;(conv=>whnf);refine Side.mk rfl ⟨_, idx_0 hx105, idx_map _ hx105, ?_⟩;(conv=>whnf);refine nl ?_;(conv=>whnf);refine nl ?_;(conv=>whnf);refine nl ?_;(conv=>whnf);refine nl ?_;(conv=>whnf);refine nl ?_;(conv=>whnf);refine Side.mk rfl ⟨_, idx_0 hx105, idx_map _ hx105, ?_⟩;(conv=>whnf);refine nl ?_;(conv=>whnf);refine nl ?_;(conv=>whnf);refine nl ?_
            (conv=>whnf);refine Both.mk ?_ trivial;(conv=>whnf);refine sr ?_;(conv=>whnf);refine nl ?_;(conv=>whnf);refine nl ?_;(conv=>whnf);refine Side.mk rfl ⟨_, idx_0 hx105, idx_map _ hx105, ?_⟩;(conv=>whnf);refine nl ?_;(conv=>whnf);refine nl ?_;(conv=>whnf);refine nl ?_;(conv=>whnf);refine Both.mk ?_ trivial;(conv=>whnf);refine sr ?_;cases hx104;(conv=>whnf);refine ⟨(b153, b154), trivial, Sub.eq rfl ?_ ?_⟩
            ·(repeat ((conv=>whnf);refine nr ?_));exact trivial
            ·(conv=>whnf);refine no ?_;(conv=>whnf);refine no ?_;exact trivial
           ·(conv=>whnf);refine Both.mk ?_ trivial;(conv=>whnf);intro b155;(conv=>whnf);refine nl ?_;(conv=>whnf);refine nl ?_;(conv=>whnf);refine Side.mk rfl ⟨_, idx_0 hx105, idx_map _ hx105, ?_⟩;(conv=>whnf);refine nl ?_;(conv=>whnf);refine nl ?_;(conv=>whnf);refine nl ?_;(conv=>whnf);refine nl ?_;(conv=>whnf);refine nl ?_;(conv=>whnf);refine Side.mk rfl ⟨_, idx_0 hx105, idx_map _ hx105, ?_⟩;(conv=>whnf);refine nl ?_;(conv=>whnf);refine nl ?_;(conv=>whnf);refine nl ?_;(conv=>whnf);refine Both.mk ?_ trivial;(conv=>whnf);intro b156;(conv=>whnf);refine nl ?_;(conv=>whnf);refine nl ?_;(conv=>whnf);refine Side.mk rfl ⟨_, idx_0 hx105, idx_map _ hx105, ?_⟩;(conv=>whnf);refine nl ?_;(conv=>whnf);refine nl ?_;(conv=>whnf);refine nl ?_;(conv=>whnf);refine nl ?_;(conv=>whnf);refine nl ?_;(conv=>whnf);refine Side.mk rfl ⟨_, idx_0 hx105, idx_map _ hx105, ?_⟩;(conv=>whnf);refine nl ?_;(conv=>whnf)
            refine nl ?_;(conv=>whnf);refine nl ?_;(conv=>whnf);refine Both.mk ?_ trivial;(conv=>whnf);refine sr ?_;(conv=>whnf);refine nl ?_;(conv=>whnf);refine nl ?_;(conv=>whnf);refine Side.mk rfl ⟨_, idx_0 hx105, idx_map _ hx105, ?_⟩;(conv=>whnf);refine nl ?_;(conv=>whnf);refine nl ?_;(conv=>whnf);refine nl ?_;(conv=>whnf);refine Both.mk ?_ trivial;(conv=>whnf);refine sr ?_;cases hx104;(conv=>whnf);refine ⟨(b156, b155), trivial, Sub.eq rfl ?_ ?_⟩
            ·(repeat ((conv=>whnf);refine nr ?_));exact trivial
            ·(conv=>whnf);refine no ?_;(conv=>whnf);refine no ?_;exact trivial
          ·rintro ⟨bb23, bb24⟩ _;obtain ⟨v16, hx107, hl2⟩ := obind hl2;(conv=>whnf);refine SeqG.mk Unit (fun y => [(4, .d (.list 4 (List.map LadderPair.enc ra2))), (6, .d (.list 4 (List.map Ref09Pair.enc r28))), (7, .d (I i8)), (108, .d (.bool v16))]) (fun y => []) (fun _ => True) ?_ ?_
           ·obtain ⟨x48, hx108, hx107⟩ := obind hx107;(conv=>whnf);refine DrawG.mk (.take 0 (.take 1 (.take 2 (.take 3 (.take 4 (.take 5 (.take 6 (.take 7 (.take 8 (.take 9 (.spl 76 (.take 10 (.take 11 (.take 12 (.take 13 (.take 14 (.take 15 (.take 16 (.take 17 (.take 18 (.take 19 (.take 20 (.spl 87 (.take 21 (.take 22 (.take 23 (.take 24 (.take 25 (.take 26 (.take 27 (.take 28 (.take 29 (.take 30 (.take 31 (.spl 98 (.take 32 (.take 33 (.take 34 (.take 35 (.take 36 (.take 37 (.take 38 (.take 39 (.take 40 (.take 41 .done))))))))))))))))))))))))))))))))))))))))))))) (by kernel_rfl) ?_;(conv=>whnf);refine sr ?_;(conv=>whnf);refine Side.mk rfl ⟨_, idx_0 hx108, idx_map _ hx108, ?_⟩;(conv=>whnf);refine Br.mk (fun hc113 => ?_) (fun hc113 => ?_)
            ·replace hx107 := ite_t hc113 hx107;cases hx107;(conv=>whnf);refine ⟨(), trivial, Sub.eq rfl ?_ ?_⟩
             ·(repeat ((conv=>whnf);refine nr ?_));exact trivial
             ·exact trivial
            ·replace hx107 := ite_f hc113 hx107;(conv=>whnf);refine sr ?_;(conv=>whnf);refine Side.mk rfl ⟨_, idx_0 hx108, idx_map _ hx108, ?_⟩;(conv=>whnf);refine Br.mk (fun hc114 => ?_) (fun hc114 => ?_)
             ·replace hx107 := ite_t hc114 hx107;cases hx107;(conv=>whnf);refine ⟨(), trivial, Sub.eq rfl ?_ ?_⟩
              ·(repeat ((conv=>whnf);refine nr ?_));exact trivial
              ·exact trivial
             ·replace hx107 := ite_f hc114 hx107;(conv=>whnf);refine sr ?_;(conv=>whnf);refine Side.mk rfl ⟨_, idx_0 hx108, idx_map _ hx108, ?_⟩;(conv=>whnf);refine Br.mk (fun hc115 => ?_) (fun hc115 => ?_)
              ·replace hx107 := ite_t hc115 hx107;cases hx107;(conv=>whnf);refine ⟨(), trivial, Sub.eq rfl ?_ ?_⟩
               ·(repeat ((conv=>whnf);refine nr ?_));exact trivial
               ·exact trivial
              ·replace hx107 := ite_f hc115 hx107;(conv=>whnf);refine sr ?_;(conv=>whnf);refine Side.mk rfl ⟨_, idx_0 hx108, idx_map _ hx108, ?_⟩;cases hx107;(conv=>whnf);refine ⟨(), trivial, Sub.eq rfl ?_ ?_⟩
               ·(repeat ((conv=>whnf);refine nr ?_));exact trivial
               ·exact trivial
           ·rintro _ _;(conv=>whnf);refine Br.mk (fun hc116 => ?_) (fun hc116 => ?_)
            ·replace hl2 := ite_t hc116 hl2;(conv=>whnf);cases hl2;exact rfl
            ·replace hl2 := ite_f hc116 hl2;(conv=>whnf);refine ⟨(n2, w64 (i8 + 1)), hl2, Sub.eq rfl ?_ ?_, Nat.lt_succ_self _⟩
             ·(repeat ((conv=>whnf);refine nr ?_));exact trivial
             ·exact trivial
         ·replace hl2 := ite_f hc102 hl2;(conv=>whnf);refine ⟨(), hl2, Sub.eq rfl ?_ ?_⟩
          ·(repeat ((conv=>whnf);refine nr ?_));exact trivial
          ·exact trivial
       ·clear h;rintro _ h;unfold law09LadderTrees_k1 at h;obtain ⟨r30, hx72, h⟩ := obind h;(conv=>whnf);refine CallG.pure _ (law09WakesC hN hx72) ?_;(conv=>whnf);cases h;exact rfl
end Go.Proofs.Ytbceakhnnnfiaaa
