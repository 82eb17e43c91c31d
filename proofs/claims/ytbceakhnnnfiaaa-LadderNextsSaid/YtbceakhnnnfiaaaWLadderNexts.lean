/-
  The walk of the law LadderNexts.
-/
import Derived.Test.YtbceakhnnnfiaaaDLadderNexts
import Derived.Test.YtbceakhnnnfiaaaWe
import Derived.Test.YtbceakhnnnfiaaaVb
import Derived.Test.YtbceakhnnnfiaaaVc
import Derived.Test.YtbceakhnnnfiaaaVe
import Derived.Test.YtbceakhnnnfiaaaVf
import Derived.Test.YtbceakhnnnfiaaaVi
import Derived.Test.YtbceakhnnnfiaaaVk
import Derived.Test.YtbceakhnnnfiaaaVl
import Derived.Test.YtbceakhnnnfiaaaVm
import Derived.Test.YtbceakhnnnfiaaaVs
namespace Go.Proofs.Ytbceakhnnnfiaaa
open Go Go.Abs Go.Kp
set_option maxRecDepth 100000
set_option maxHeartbeats 8000000
set_option linter.all false

theorem law09LadderNextsC {N : Nat} (hN : N ≤ 1073741824) {c1 : Ref09Cup} {r : Bool} (h : law09LadderNexts N c1 = some r) :
    ACalls Try.prog 11 [.d (.agg [.int .u8 c1.fForm, I c1.fPlayers, I c1.fGames, .list 3 (List.map Ref09Result.enc c1.fResults)])] [] fun e os => e = .ret (.d (.bool r)) ∧ os = [] := by
  refine acalls_f (fresh := false) tt_ok dr_ok ⟨[1], [], [], [], [7, 9, 14, 23, 29, 1011, 1020, 1023, 1025], 0, []⟩ Try.func11 rfl Try.call11 rfl ?_
  unfold law09LadderNexts at h
  obtain ⟨r6, hx6, h⟩ := obind h;(conv=>whnf);refine CallG.pure _ (law09FewC hN hx6) ?_;(conv=>whnf);refine Br.mk (fun hc2 => ?_) (fun hc2 => ?_)
  ·replace h := ite_t hc2 h;obtain ⟨r8, hx8, h⟩ := obind h;(conv=>whnf);refine CallG.pure _ (law09WakesC hN hx8) ?_;(conv=>whnf);cases h;exact rfl
  ·replace h := ite_f hc2 h;obtain ⟨r10, hx11, h⟩ := obind h;(conv=>whnf);refine CallG.pure _ (law09CupC hN hx11) ?_;obtain ⟨⟨ra2, rb2⟩, hx12, h⟩ := obind h;(conv=>whnf);refine CallG.pure _ (ladderNextC hN hx12) ?_;obtain ⟨r12, hx15, h⟩ := obind h;(conv=>whnf);refine CallG.pure _ (law09CupC hN hx15) ?_;obtain ⟨⟨ra4, rb4⟩, hx16, h⟩ := obind h;(conv=>whnf);refine CallG.pure _ (ladderWinnerXC hN hx16) ?_;obtain ⟨r18, hx23, h⟩ := obind h;(conv=>whnf);refine CallG.pure _ (law09FaultC hN hx23) ?_;(conv=>whnf);refine Br.mk (fun hc12 => ?_) (fun hc12 => ?_)
   ·replace h := ite_t hc12 h;obtain ⟨v2, hx25, h⟩ := obind h;(conv=>whnf);refine SeqG.mk Unit (fun y => [(2, .d (.bool v2))]) (fun y => []) (fun _ => True) ?_ ?_
    ·(conv=>whnf);refine Br.mk (fun hc17 => ?_) (fun hc17 => ?_)
     ·replace hx25 := ite_t hc17 hx25;(conv=>whnf);refine Br.mk (fun hc18 => ?_) (fun hc18 => ?_)
      ·replace hx25 := ite_t hc18 hx25;(conv=>whnf);refine LnA.mk _ (List.length_map _) ?_;(conv=>whnf);refine Br.mk (fun hc19 => ?_) (fun hc19 => ?_)
       ·replace hx25 := ite_t hc19 hx25;(conv=>whnf);refine Br.mk (fun hc20 => ?_) (fun hc20 => ?_)
        ·replace hx25 := ite_t hc20 hx25;obtain ⟨r20, hx26, hx25⟩ := obind hx25;(conv=>whnf);refine CallG.pure _ (law09WakesC hN hx26) ?_;cases hx25;(conv=>whnf);refine ⟨(), trivial, Sub.eq rfl ?_ ?_⟩
         ·(repeat ((conv=>whnf);refine nr ?_));exact trivial
         ·exact trivial
        ·replace hx25 := ite_f hc20 hx25;cases hx25;(conv=>whnf);refine ⟨(), trivial, Sub.eq rfl ?_ ?_⟩
         ·(repeat ((conv=>whnf);refine nr ?_));exact trivial
         ·exact trivial
       ·replace hx25 := ite_f hc19 hx25;cases hx25;(conv=>whnf);refine ⟨(), trivial, Sub.eq rfl ?_ ?_⟩
        ·(repeat ((conv=>whnf);refine nr ?_));exact trivial
        ·exact trivial
      ·replace hx25 := ite_f hc18 hx25;cases hx25;(conv=>whnf);refine ⟨(), trivial, Sub.eq rfl ?_ ?_⟩
       ·(repeat ((conv=>whnf);refine nr ?_));exact trivial
       ·exact trivial
     ·replace hx25 := ite_f hc17 hx25;cases hx25;(conv=>whnf);refine ⟨(), trivial, Sub.eq rfl ?_ ?_⟩
      ·(repeat ((conv=>whnf);refine nr ?_));exact trivial
      ·exact trivial
    ·rintro _ _;(conv=>whnf);cases h;exact rfl
   ·replace h := ite_f hc12 h;obtain ⟨r22, hx28, h⟩ := obind h;(conv=>whnf);refine CallG.pure _ (ref09NextC hN hx28) ?_;obtain ⟨v4, hx30, h⟩ := obind h;(conv=>whnf);refine SeqG.mk Unit (fun y => [(1, .d (.ref (.agg [.int .u8 c1.fForm, I c1.fPlayers, I c1.fGames, .list 3 (List.map Ref09Result.enc c1.fResults)]))), (3, .d (.list 5 (List.map LadderMatch.enc ra2))), (5, .d (I ra4)), (6, .d (I rb4)), (8, .d (.list 5 (List.map Ref09Match.enc r22))), (65, .d (.bool v4))]) (fun y => []) (fun _ => True) ?_ ?_
    ·(conv=>whnf);refine Br.mk (fun hc25 => ?_) (fun hc25 => ?_)
     ·replace hx30 := ite_f hc25 hx30;(conv=>whnf);refine LnA.mk _ (List.length_map _) ?_;(conv=>whnf);refine LnA.mk _ (List.length_map _) ?_;cases hx30;(conv=>whnf);refine ⟨(), trivial, Sub.eq rfl ?_ ?_⟩
      ·(repeat ((conv=>whnf);refine nr ?_));exact trivial
      ·exact trivial
     ·replace hx30 := ite_t hc25 hx30;cases hx30;(conv=>whnf);refine ⟨(), trivial, Sub.eq rfl ?_ ?_⟩
      ·(repeat ((conv=>whnf);refine nr ?_));exact trivial
      ·exact trivial
    ·rintro _ _;(conv=>whnf);refine Br.mk (fun hc26 => ?_) (fun hc26 => ?_)
     ·replace h := ite_t hc26 h;(conv=>whnf);cases h;exact rfl
     ·replace h := ite_f hc26 h;(conv=>whnf);refine SeqG.mk Unit (fun y => [(1, .d (.ref (.agg [.int .u8 c1.fForm, I c1.fPlayers, I c1.fGames, .list 3 (List.map Ref09Result.enc c1.fResults)]))), (5, .d (I ra4)), (6, .d (I rb4))]) (fun y => []) (fun y => law09LadderNexts_k2 N c1 ra4 rb4 = some r) ?_ ?_
      ·(conv=>whnf);refine LoopG.mk (Nat × Int) (fun y => [(1, .d (.ref (.agg [.int .u8 c1.fForm, I c1.fPlayers, I c1.fGames, .list 3 (List.map Ref09Result.enc c1.fResults)]))), (3, .d (.list 5 (List.map LadderMatch.enc ra2))), (5, .d (I ra4)), (6, .d (I rb4)), (8, .d (.list 5 (List.map Ref09Match.enc r22))), (9, .d (I y.2))]) (fun y => []) (fun y => loopN (fun rr x => law09LadderNexts_b3 N c1 ra2 ra4 rb4 r22 rr x) y.1 y.2 = some r) (fun y => y.1) (N, 0) h (Sub.eq rfl ?_ ?_) ?_
       ·(repeat ((conv=>whnf);refine nr ?_));exact trivial
       ·exact trivial
       ·rintro ⟨n4, i8⟩ hl4;obtain ⟨n4, rfl, hl4⟩ := loopN_some hl4;replace hl4 : law09LadderNexts_b3 N c1 ra2 ra4 rb4 r22 (loopN (fun rr x => law09LadderNexts_b3 N c1 ra2 ra4 rb4 r22 rr x) n4) i8 = some r := hl4;rw [law09LadderNexts_b3] at hl4;(conv=>whnf);refine LnA.mk _ (List.length_map _) ?_;(conv=>whnf);refine Br.mk (fun hc184 => ?_) (fun hc184 => ?_)
        ·replace hl4 := ite_t hc184 hl4;obtain ⟨v29, hx139, hl4⟩ := obind hl4;(conv=>whnf);refine SeqG.mk Unit (fun y => [(1, .d (.ref (.agg [.int .u8 c1.fForm, I c1.fPlayers, I c1.fGames, .list 3 (List.map Ref09Result.enc c1.fResults)]))), (3, .d (.list 5 (List.map LadderMatch.enc ra2))), (5, .d (I ra4)), (6, .d (I rb4)), (8, .d (.list 5 (List.map Ref09Match.enc r22))), (9, .d (I i8)), (134, .d (.bool v29))]) (fun y => []) (fun _ => True) ?_ ?_
         ·obtain ⟨x71, hx140, hx139⟩ := obind hx139;obtain ⟨x72, hx141, hx139⟩ := obind hx139;(conv=>whnf);refine DrawG.mk (.take 0 (.take 1 (.take 2 (.take 3 (.take 4 (.take 5 (.take 6 (.take 7 (.take 8 (.take 9 (.take 10 (.take 11 (.spl 83 (.take 12 (.take 13 (.take 14 (.take 15 (.take 16 (.take 17 (.take 18 (.take 19 (.take 20 (.take 21 (.take 22 (.take 23 (.take 24 (.spl 96 (.take 25 (.take 26 (.take 27 (.take 28 (.take 29 (.take 30 (.take 31 (.take 32 (.take 33 (.take 34 (.take 35 (.take 36 (.take 37 (.spl 109 (.take 38 (.take 39 (.take 40 (.take 41 (.take 42 (.take 43 (.take 44 (.take 45 (.take 46 (.take 47 (.take 48 (.take 49 (.take 50 (.spl 122 (.take 51 (.take 52 (.take 53 (.take 54 (.take 55 (.take 56 (.take 57 (.take 58 (.take 59 (.take 60 (.take 61 (.take 62 .done))))))))))))))))))))))))))))))))))))))))))))))))))))))))))))))))))) (by kernel_rfl) ?_;(conv=>whnf)
          refine Side.mk rfl ⟨_, idx_0 hx140, idx_map _ hx140, ?_⟩;(conv=>whnf);refine Side.mk rfl ⟨_, idx_0 hx141, idx_map _ hx141, ?_⟩;(conv=>whnf);refine Br.mk (fun hc198 => ?_) (fun hc198 => ?_)
          ·replace hx139 := ite_t hc198 hx139;cases hx139;(conv=>whnf);refine ⟨(), trivial, Sub.eq rfl ?_ ?_⟩
           ·(repeat ((conv=>whnf);refine nr ?_));exact trivial
           ·exact trivial
          ·replace hx139 := ite_f hc198 hx139;(conv=>whnf);refine Side.mk rfl ⟨_, idx_0 hx140, idx_map _ hx140, ?_⟩;(conv=>whnf);refine Side.mk rfl ⟨_, idx_0 hx141, idx_map _ hx141, ?_⟩;(conv=>whnf);refine Br.mk (fun hc199 => ?_) (fun hc199 => ?_)
           ·replace hx139 := ite_t hc199 hx139;cases hx139;(conv=>whnf);refine ⟨(), trivial, Sub.eq rfl ?_ ?_⟩
            ·(repeat ((conv=>whnf);refine nr ?_));exact trivial
            ·exact trivial
           ·replace hx139 := ite_f hc199 hx139;(conv=>whnf);refine Side.mk rfl ⟨_, idx_0 hx140, idx_map _ hx140, ?_⟩;(conv=>whnf);refine Side.mk rfl ⟨_, idx_0 hx141, idx_map _ hx141, ?_⟩;(conv=>whnf);refine Br.mk (fun hc200 => ?_) (fun hc200 => ?_)
            ·replace hx139 := ite_t hc200 hx139;cases hx139;(conv=>whnf);refine ⟨(), trivial, Sub.eq rfl ?_ ?_⟩
             ·(repeat ((conv=>whnf);refine nr ?_));exact trivial
             ·exact trivial
            ·replace hx139 := ite_f hc200 hx139;(conv=>whnf);refine Side.mk rfl ⟨_, idx_0 hx140, idx_map _ hx140, ?_⟩;(conv=>whnf);refine Side.mk rfl ⟨_, idx_0 hx141, idx_map _ hx141, ?_⟩;(conv=>whnf);refine Br.mk (fun hc201 => ?_) (fun hc201 => ?_)
             ·replace hx139 := ite_t hc201 hx139;cases hx139;(conv=>whnf);refine ⟨(), trivial, Sub.eq rfl ?_ ?_⟩
              ·(repeat ((conv=>whnf);refine nr ?_));exact trivial
              ·exact trivial
             ·replace hx139 := ite_f hc201 hx139;(conv=>whnf);refine Side.mk rfl ⟨_, idx_0 hx140, idx_map _ hx140, ?_⟩;(conv=>whnf);refine Side.mk rfl ⟨_, idx_0 hx141, idx_map _ hx141, ?_⟩;cases hx139;(conv=>whnf);refine ⟨(), trivial, Sub.eq rfl ?_ ?_⟩
              ·(repeat ((conv=>whnf);refine nr ?_));exact trivial
              ·exact trivial
         ·rintro _ _;(conv=>whnf);refine Br.mk (fun hc202 => ?_) (fun hc202 => ?_)
          ·replace hl4 := ite_t hc202 hl4;(conv=>whnf);cases hl4;exact rfl
          ·replace hl4 := ite_f hc202 hl4;(conv=>whnf);refine ⟨(n4, w64 (i8 + 1)), hl4, Sub.eq rfl ?_ ?_, Nat.lt_succ_self _⟩
           ·(repeat ((conv=>whnf);refine nr ?_));exact trivial
           ·exact trivial
        ·replace hl4 := ite_f hc184 hl4;(conv=>whnf);refine ⟨(), hl4, Sub.eq rfl ?_ ?_⟩
         ·(repeat ((conv=>whnf);refine nr ?_));exact trivial
         ·exact trivial
      ·clear h;rintro _ h;unfold law09LadderNexts_k2 at h;obtain ⟨r24, hx62, h⟩ := obind h;(conv=>whnf);refine CallG.pure _ (ref09WonC hN hx62) ?_;obtain ⟨r26, hx64, h⟩ := obind h;(conv=>whnf);refine CallG.pure _ (ref09LeastC hN hx64) ?_;obtain ⟨others8, hx86, h⟩ := obind h;(conv=>whnf);refine SeqG.mk Unit (fun y => [(5, .d (I ra4)), (6, .d (I rb4)), (10, .d (I r24)), (11, .i .i64 0), (12, .d (I others8))]) (fun y => []) (fun _ => True) ?_ ?_
       ·(conv=>whnf);refine LoopG.mk (Nat × (Int × Int)) (fun y => [(5, .d (I ra4)), (6, .d (I rb4)), (10, .d (I r24)), (11, .i .i64 0), (12, .d (I y.2.1)), (13, .d (.list 1 (List.map I r26))), (14, .d (I y.2.2))]) (fun y => []) (fun y => loopN (fun rr x => law09LadderNexts_b1 N r24 r26 rr x.1 x.2) y.1 y.2 = some others8) (fun y => y.1) (N, (0, 0)) hx86 (Sub.eq rfl ?_ ?_) ?_
        ·(repeat ((conv=>whnf);refine nr ?_));exact trivial
        ·exact trivial
        ·rintro ⟨n3, ⟨others14, p8⟩⟩ hl3;obtain ⟨n3, rfl, hl3⟩ := loopN_some hl3;replace hl3 : law09LadderNexts_b1 N r24 r26 (loopN (fun rr x => law09LadderNexts_b1 N r24 r26 rr x.1 x.2) n3) others14 p8 = some others8 := hl3;rw [law09LadderNexts_b1] at hl3;(conv=>whnf);refine LnA.mk _ (List.length_map _) ?_;(conv=>whnf);refine Br.mk (fun hc128 => ?_) (fun hc128 => ?_)
         ·replace hl3 := ite_t hc128 hl3;obtain ⟨others15, hx104, hl3⟩ := obind hl3;(conv=>whnf);refine SeqG.mk Unit (fun y => [(5, .d (I ra4)), (6, .d (I rb4)), (10, .d (I r24)), (11, .i .i64 0), (12, .d (I others15)), (13, .d (.list 1 (List.map I r26))), (14, .d (I p8))]) (fun y => []) (fun _ => True) ?_ ?_
          ·obtain ⟨v22, hx106, hx104⟩ := obind hx104;(conv=>whnf);refine SeqG.mk Unit (fun y => [(5, .d (I ra4)), (6, .d (I rb4)), (10, .d (I r24)), (11, .i .i64 0), (12, .d (I others14)), (13, .d (.list 1 (List.map I r26))), (14, .d (I p8)), (157, .d (.bool v22))]) (fun y => []) (fun _ => True) ?_ ?_
           ·obtain ⟨x48, hx107, hx106⟩ := obind hx106;(conv=>whnf);refine Side.mk rfl ⟨_, idx_0 hx107, idx_map _ hx107, ?_⟩;(conv=>whnf);refine Br.mk (fun hc133 => ?_) (fun hc133 => ?_)
            ·replace hx106 := ite_t hc133 hx106;cases hx106;(conv=>whnf);refine ⟨(), trivial, Sub.eq rfl ?_ ?_⟩
             ·(repeat ((conv=>whnf);refine nr ?_));exact trivial
             ·exact trivial
            ·replace hx106 := ite_f hc133 hx106;cases hx106;(conv=>whnf);refine ⟨(), trivial, Sub.eq rfl ?_ ?_⟩
             ·(repeat ((conv=>whnf);refine nr ?_));exact trivial
             ·exact trivial
           ·rintro _ _;(conv=>whnf);refine Br.mk (fun hc134 => ?_) (fun hc134 => ?_)
            ·replace hx104 := ite_t hc134 hx104;cases hx104;(conv=>whnf);refine ⟨(), trivial, Sub.eq rfl ?_ ?_⟩
             ·(repeat ((conv=>whnf);refine nr ?_));exact trivial
             ·exact trivial
            ·replace hx104 := ite_f hc134 hx104;cases hx104;(conv=>whnf);refine ⟨(), trivial, Sub.eq rfl ?_ ?_⟩
             ·(repeat ((conv=>whnf);refine nr ?_));exact trivial
             ·exact trivial
          ·rintro _ _;(conv=>whnf);refine ⟨(n3, (others15, w64 (p8 + 1))), hl3, Sub.eq rfl ?_ ?_, Nat.lt_succ_self _⟩
           ·(repeat ((conv=>whnf);refine nr ?_));exact trivial
           ·exact trivial
         ·replace hl3 := ite_f hc128 hl3;cases hl3;(conv=>whnf);refine ⟨(), trivial, Sub.eq rfl ?_ ?_⟩
          ·(repeat ((conv=>whnf);refine nr ?_));exact trivial
          ·exact trivial
       ·rintro _ _;obtain ⟨⟨due1, want1⟩, hx108, h⟩ := obind h;(conv=>whnf);refine SeqG.mk Unit (fun y => [(5, .d (I ra4)), (6, .d (I rb4)), (10, .d (I due1)), (11, .d (I want1))]) (fun y => []) (fun _ => True) ?_ ?_
        ·(conv=>whnf);refine Br.mk (fun hc137 => ?_) (fun hc137 => ?_)
         ·replace hx108 := ite_t hc137 hx108;cases hx108;(conv=>whnf);refine ⟨(), trivial, Sub.eq rfl ?_ ?_⟩
          ·(repeat ((conv=>whnf);refine nr ?_));exact trivial
          ·exact trivial
         ·replace hx108 := ite_f hc137 hx108;(conv=>whnf);refine Br.mk (fun hc138 => ?_) (fun hc138 => ?_)
          ·replace hx108 := ite_t hc138 hx108;cases hx108;(conv=>whnf);refine ⟨(), trivial, Sub.eq rfl ?_ ?_⟩
           ·(repeat ((conv=>whnf);refine nr ?_));exact trivial
           ·exact trivial
          ·replace hx108 := ite_f hc138 hx108;cases hx108;(conv=>whnf);refine ⟨(), trivial, Sub.eq rfl ?_ ?_⟩
           ·(repeat ((conv=>whnf);refine nr ?_));exact trivial
           ·exact trivial
        ·rintro _ _;obtain ⟨v23, hx110, h⟩ := obind h;(conv=>whnf);refine SeqG.mk Unit (fun y => [(2, .d (.bool v23))]) (fun y => []) (fun _ => True) ?_ ?_
         ·(conv=>whnf);refine Br.mk (fun hc141 => ?_) (fun hc141 => ?_)
          ·replace hx110 := ite_t hc141 hx110;(conv=>whnf);refine Br.mk (fun hc142 => ?_) (fun hc142 => ?_)
           ·replace hx110 := ite_t hc142 hx110;obtain ⟨r28, hx111, hx110⟩ := obind hx110;(conv=>whnf);refine CallG.pure _ (law09WakesC hN hx111) ?_;cases hx110;(conv=>whnf);refine ⟨(), trivial, Sub.eq rfl ?_ ?_⟩
            ·(repeat ((conv=>whnf);refine nr ?_));exact trivial
            ·exact trivial
           ·replace hx110 := ite_f hc142 hx110;cases hx110;(conv=>whnf);refine ⟨(), trivial, Sub.eq rfl ?_ ?_⟩
            ·(repeat ((conv=>whnf);refine nr ?_));exact trivial
            ·exact trivial
          ·replace hx110 := ite_f hc141 hx110;cases hx110;(conv=>whnf);refine ⟨(), trivial, Sub.eq rfl ?_ ?_⟩
           ·(repeat ((conv=>whnf);refine nr ?_));exact trivial
           ·exact trivial
         ·rintro _ _;(conv=>whnf);cases h;exact rfl
end Go.Proofs.Ytbceakhnnnfiaaa
