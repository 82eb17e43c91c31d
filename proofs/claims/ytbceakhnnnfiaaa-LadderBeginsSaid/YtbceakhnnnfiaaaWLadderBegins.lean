/-
  The walk of the law LadderBegins.
-/
import Derived.Test.YtbceakhnnnfiaaaDLadderBegins
import Derived.Test.YtbceakhnnnfiaaaWe
import Derived.Test.YtbceakhnnnfiaaaVc
import Derived.Test.YtbceakhnnnfiaaaVf
import Derived.Test.YtbceakhnnnfiaaaVg
import Derived.Test.YtbceakhnnnfiaaaVl
namespace Go.Proofs.Ytbceakhnnnfiaaa
open Go Go.Abs Go.Kp
set_option maxRecDepth 100000
set_option maxHeartbeats 8000000
set_option linter.all false

theorem law09LadderBeginsC {N : Nat} (hN : N ≤ 1073741824) {c1 : Ref09Cup} {r : Bool} (h : law09LadderBegins N c1 = some r) :
    ACalls Try.prog 12 [.d (.agg [.int .u8 c1.fForm, I c1.fPlayers, I c1.fGames, .list 3 (List.map Ref09Result.enc c1.fResults)])] [] fun e os => e = .ret (.d (.bool r)) ∧ os = [] := by
  refine acalls_f (fresh := false) tt_ok dr_ok ⟨[], [], [], [], [8, 14, 1010], 0, []⟩ Try.func12 rfl Try.call12 rfl ?_
  unfold law09LadderBegins at h
  (conv=>whnf);intro b2;(conv=>whnf);refine sr ?_;obtain ⟨r6, hx6, h⟩ := obind h;(conv=>whnf);refine CallG.pure _ (law09ReadyC hN hx6) ?_;(conv=>whnf);refine Br.mk (fun hc2 => ?_) (fun hc2 => ?_)
  ·replace h := ite_t hc2 h;obtain ⟨r8, hx8, h⟩ := obind h;(conv=>whnf);refine CallG.pure _ (law09WakesC hN hx8) ?_;(conv=>whnf);cases h;exact rfl
  ·replace h := ite_f hc2 h;(conv=>whnf);refine sr ?_;(conv=>whnf);refine sr ?_;obtain ⟨r10, hx11, h⟩ := obind h;(conv=>whnf);refine CallG.pure _ (law09CupC hN hx11) ?_;obtain ⟨⟨ra2, rb2⟩, hx12, h⟩ := obind h;(conv=>whnf);refine CallG.pure _ (ladderMayWinC hN hx12) ?_;(conv=>whnf);refine sr ?_;obtain ⟨r12, hx15, h⟩ := obind h;(conv=>whnf);refine CallG.pure _ (law09CupC hN hx15) ?_;obtain ⟨⟨ra4, rb4⟩, hx16, h⟩ := obind h;(conv=>whnf);refine CallG.pure _ (ladderUpsetsC hN hx16) ?_;(conv=>whnf);refine sr ?_;obtain ⟨r14, hx19, h⟩ := obind h;(conv=>whnf);refine CallG.pure _ (law09CupC hN hx19) ?_;obtain ⟨⟨ra6, rb6⟩, hx20, h⟩ := obind h;(conv=>whnf);refine CallG.pure _ (ladderHangsC hN hx20) ?_;(conv=>whnf);refine sr ?_;obtain ⟨r16, hx23, h⟩ := obind h;(conv=>whnf);refine CallG.pure _ (law09CupC hN hx23) ?_;obtain ⟨⟨ra8, rb8⟩, hx24, h⟩ := obind h;(conv=>whnf)
   refine CallG.pure _ (ladderWinnerXC hN hx24) ?_;obtain ⟨v2, hx26, h⟩ := obind h;(conv=>whnf);refine SeqG.mk Unit (fun y => [(1, .ptr 1 b2 0), (3, .d (.list 1 (List.map I ra2))), (72, .d (.bool v2))]) (fun y => [(1, .cells b2 [.d (.int .u8 c1.fForm), .d (I c1.fPlayers), .d (I c1.fGames), .nils 3])]) (fun _ => True) ?_ ?_
   ·(conv=>whnf);refine Br.mk (fun hc22 => ?_) (fun hc22 => ?_)
    ·replace hx26 := ite_f hc22 hx26;(conv=>whnf);refine LnA.mk _ (List.length_map _) ?_;(conv=>whnf);refine sr ?_;(conv=>whnf);refine Br.mk (fun hc23 => ?_) (fun hc23 => ?_)
     ·replace hx26 := ite_f hc23 hx26;(conv=>whnf);refine Br.mk (fun hc24 => ?_) (fun hc24 => ?_)
      ·replace hx26 := ite_f hc24 hx26;(conv=>whnf);refine Br.mk (fun hc25 => ?_) (fun hc25 => ?_)
       ·replace hx26 := ite_f hc25 hx26;(conv=>whnf);refine Br.mk (fun hc26 => ?_) (fun hc26 => ?_)
        ·replace hx26 := ite_f hc26 hx26;(conv=>whnf);refine LnA.mk _ (List.length_map _) ?_;(conv=>whnf);refine Br.mk (fun hc27 => ?_) (fun hc27 => ?_)
         ·replace hx26 := ite_f hc27 hx26;cases hx26;(conv=>whnf);refine ⟨(), trivial, Sub.eq rfl ?_ ?_⟩
          ·(repeat ((conv=>whnf);refine nr ?_));exact trivial
          ·(conv=>whnf);refine no ?_;exact trivial
         ·replace hx26 := ite_t hc27 hx26;cases hx26;(conv=>whnf);refine ⟨(), trivial, Sub.eq rfl ?_ ?_⟩
          ·(repeat ((conv=>whnf);refine nr ?_));exact trivial
          ·(conv=>whnf);refine no ?_;exact trivial
        ·replace hx26 := ite_t hc26 hx26;cases hx26;(conv=>whnf);refine ⟨(), trivial, Sub.eq rfl ?_ ?_⟩
         ·(repeat ((conv=>whnf);refine nr ?_));exact trivial
         ·(conv=>whnf);refine no ?_;exact trivial
       ·replace hx26 := ite_t hc25 hx26;cases hx26;(conv=>whnf);refine ⟨(), trivial, Sub.eq rfl ?_ ?_⟩
        ·(repeat ((conv=>whnf);refine nr ?_));exact trivial
        ·(conv=>whnf);refine no ?_;exact trivial
      ·replace hx26 := ite_t hc24 hx26;cases hx26;(conv=>whnf);refine ⟨(), trivial, Sub.eq rfl ?_ ?_⟩
       ·(repeat ((conv=>whnf);refine nr ?_));exact trivial
       ·(conv=>whnf);refine no ?_;exact trivial
     ·replace hx26 := ite_t hc23 hx26;cases hx26;(conv=>whnf);refine ⟨(), trivial, Sub.eq rfl ?_ ?_⟩
      ·(repeat ((conv=>whnf);refine nr ?_));exact trivial
      ·(conv=>whnf);refine no ?_;exact trivial
    ·replace hx26 := ite_t hc22 hx26;cases hx26;(conv=>whnf);refine ⟨(), trivial, Sub.eq rfl ?_ ?_⟩
     ·(repeat ((conv=>whnf);refine nr ?_));exact trivial
     ·(conv=>whnf);refine no ?_;exact trivial
   ·rintro _ _;(conv=>whnf);refine Br.mk (fun hc28 => ?_) (fun hc28 => ?_)
    ·replace h := ite_t hc28 h;(conv=>whnf);cases h;exact rfl
    ·replace h := ite_f hc28 h;(conv=>whnf);refine SeqG.mk Unit (fun y => []) (fun y => []) (fun y => law09LadderBegins_k1 N = some r) ?_ ?_
     ·(conv=>whnf);refine LoopG.mk (Nat × Int) (fun y => [(1, .ptr 1 b2 0), (3, .d (.list 1 (List.map I ra2))), (11, .d (I y.2))]) (fun y => [(1, .cells b2 [.d (.int .u8 c1.fForm), .d (I c1.fPlayers), .d (I c1.fGames), .nils 3])]) (fun y => loopN (fun rr x => law09LadderBegins_b2 N c1 ra2 rr x) y.1 y.2 = some r) (fun y => y.1) (N, 1) h (Sub.eq rfl ?_ ?_) ?_
      ·(repeat ((conv=>whnf);refine nr ?_));exact trivial
      ·(conv=>whnf);refine no ?_;exact trivial
      ·rintro ⟨n2, p8⟩ hl2;obtain ⟨n2, rfl, hl2⟩ := loopN_some hl2;replace hl2 : law09LadderBegins_b2 N c1 ra2 (loopN (fun rr x => law09LadderBegins_b2 N c1 ra2 rr x) n2) p8 = some r := hl2;rw [law09LadderBegins_b2] at hl2;(conv=>whnf);refine sr ?_;(conv=>whnf);refine Br.mk (fun hc110 => ?_) (fun hc110 => ?_)
       ·replace hl2 := ite_t hc110 hl2;(conv=>whnf);refine sr ?_;obtain ⟨r42, hx108, hl2⟩ := obind hl2;(conv=>whnf);refine CallG.pure _ (law09CupC hN hx108) ?_;obtain ⟨⟨ra32, rb32⟩, hx109, hl2⟩ := obind hl2;(conv=>whnf);refine CallG.pure _ (ladderUpsetsC hN hx109) ?_;obtain ⟨v14, hx111, hl2⟩ := obind hl2;(conv=>whnf);refine SeqG.mk Unit (fun y => [(1, .ptr 1 b2 0), (3, .d (.list 1 (List.map I ra2))), (11, .d (I p8)), (104, .d (.bool v14))]) (fun y => [(1, .cells b2 [.d (.int .u8 c1.fForm), .d (I c1.fPlayers), .d (I c1.fGames), .nils 3])]) (fun _ => True) ?_ ?_
        ·obtain ⟨x24, hx112, hx111⟩ := obind hx111;(conv=>whnf);refine Side.mk rfl ⟨_, idx_0 hx112, idx_map _ hx112, ?_⟩;(conv=>whnf);refine Br.mk (fun hc121 => ?_) (fun hc121 => ?_)
         ·replace hx111 := ite_f hc121 hx111;(conv=>whnf);refine Br.mk (fun hc122 => ?_) (fun hc122 => ?_)
          ·replace hx111 := ite_f hc122 hx111;(conv=>whnf);refine Br.mk (fun hc123 => ?_) (fun hc123 => ?_)
           ·replace hx111 := ite_f hc123 hx111;cases hx111;(conv=>whnf);refine ⟨(), trivial, Sub.eq rfl ?_ ?_⟩
            ·(repeat ((conv=>whnf);refine nr ?_));exact trivial
            ·(conv=>whnf);refine no ?_;exact trivial
           ·replace hx111 := ite_t hc123 hx111;cases hx111;(conv=>whnf);refine ⟨(), trivial, Sub.eq rfl ?_ ?_⟩
            ·(repeat ((conv=>whnf);refine nr ?_));exact trivial
            ·(conv=>whnf);refine no ?_;exact trivial
          ·replace hx111 := ite_t hc122 hx111;cases hx111;(conv=>whnf);refine ⟨(), trivial, Sub.eq rfl ?_ ?_⟩
           ·(repeat ((conv=>whnf);refine nr ?_));exact trivial
           ·(conv=>whnf);refine no ?_;exact trivial
         ·replace hx111 := ite_t hc121 hx111;cases hx111;(conv=>whnf);refine ⟨(), trivial, Sub.eq rfl ?_ ?_⟩
          ·(repeat ((conv=>whnf);refine nr ?_));exact trivial
          ·(conv=>whnf);refine no ?_;exact trivial
        ·rintro _ _;(conv=>whnf);refine Br.mk (fun hc124 => ?_) (fun hc124 => ?_)
         ·replace hl2 := ite_t hc124 hl2;(conv=>whnf);cases hl2;exact rfl
         ·replace hl2 := ite_f hc124 hl2;(conv=>whnf);refine ⟨(n2, w64 (p8 + 1)), hl2, Sub.eq rfl ?_ ?_, Nat.lt_succ_self _⟩
          ·(repeat ((conv=>whnf);refine nr ?_));exact trivial
          ·(conv=>whnf);refine no ?_;exact trivial
       ·replace hl2 := ite_f hc110 hl2;(conv=>whnf);refine ⟨(), hl2, Sub.eq rfl ?_ ?_⟩
        ·(repeat ((conv=>whnf);refine nr ?_));exact trivial
        ·exact trivial
     ·clear h;rintro _ h;unfold law09LadderBegins_k1 at h;obtain ⟨r30, hx70, h⟩ := obind h;(conv=>whnf);refine CallG.pure _ (law09WakesC hN hx70) ?_;(conv=>whnf);cases h;exact rfl
end Go.Proofs.Ytbceakhnnnfiaaa
