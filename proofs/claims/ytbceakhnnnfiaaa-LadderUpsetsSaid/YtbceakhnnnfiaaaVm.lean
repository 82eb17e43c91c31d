/-
  Walks: what the typed functions compute, the program’s functions return.
-/
import Derived.Test.YtbceakhnnnfiaaaWe
import Derived.Test.YtbceakhnnnfiaaaVe
import Derived.Test.YtbceakhnnnfiaaaVj
import Derived.Test.YtbceakhnnnfiaaaVk
namespace Go.Proofs.Ytbceakhnnnfiaaa
open Go Go.Abs Go.Kp
set_option maxRecDepth 100000
set_option maxHeartbeats 8000000
set_option linter.all false

theorem ref09LeastC {N : Nat} (hN : N ≤ 1073741824) {c1 : Ref09Cup} {r : (List Int)} (h : ref09Least N c1 = some r) :
    ACalls Try.prog 23 [.d (.agg [.int .u8 c1.fForm, I c1.fPlayers, I c1.fGames, .list 3 (List.map Ref09Result.enc c1.fResults)])] [] fun e os => e = .ret (.d (.list 1 (List.map I r))) ∧ os = [] := by
  refine acalls_f (fresh := false) tt_ok dr_ok ⟨[1], [], [], [], [12, 1002, 1007, 1010], 0, []⟩ Try.func23 rfl Try.call23 rfl ?_
  unfold ref09Least at h
  obtain ⟨l11, hx7, h⟩ := obind h;(conv=>whnf);refine SeqG.mk Value (fun y => [(1, .d (.ref (.agg [.int .u8 c1.fForm, I c1.fPlayers, I c1.fGames, .list 3 (List.map Ref09Result.enc c1.fResults)]))), (3, .sl 17 y)]) (fun y => [(17, .arr y 3 1 false (List.map I l11))]) (fun _ => True) ?_ ?_
  ·(conv=>whnf);refine LoopG.mk (Nat × (Int × (List Int)) × Value) (fun y => [(1, .d (.ref (.agg [.int .u8 c1.fForm, I c1.fPlayers, I c1.fGames, .list 3 (List.map Ref09Result.enc c1.fResults)]))), (3, .sl 17 y.2.2), (4, .d (I y.2.1.1))]) (fun y => [(17, .arr y.2.2 3 1 false (List.map I y.2.1.2))]) (fun y => loopN (fun rr x => ref09Least_b1 N c1 rr x.1 x.2) y.1 y.2.1 = some l11) (fun y => y.1) (N, (0, []), (.slice none 0 0)) hx7 (Sub.eq rfl ?_ ?_) ?_
   ·(repeat ((conv=>whnf);refine nr ?_));exact trivial
   ·(conv=>whnf);refine Need.mk (OLe.nil _ _ _ _) ?_;exact trivial
   ·rintro ⟨n2, ⟨p8, l19⟩, hd29⟩ hl2;obtain ⟨n2, rfl, hl2⟩ := loopN_some hl2;replace hl2 : ref09Least_b1 N c1 (loopN (fun rr x => ref09Least_b1 N c1 rr x.1 x.2) n2) p8 l19 = some l11 := hl2;rw [ref09Least_b1] at hl2;(conv=>whnf);refine Br.mk (fun hc12 => ?_) (fun hc12 => ?_)
    ·replace hl2 := ite_t hc12 hl2;(conv=>whnf);intro hd32;obtain ⟨l21, hx13, hl2⟩ := obind hl2;(conv=>whnf);refine Side.mk ⟨rfl, rfl⟩ ?_;(conv=>whnf);refine Side.mk ⟨rfl, rfl, rfl⟩ (Need.mk (app_need hN hx13 (by decide)) (Eqv.mk (List.map I l21) (app_map _ hx13) ?_));(conv=>whnf);intro hd33;(conv=>whnf);refine ⟨(n2, (w64 (p8 + 1), l21), hd33), hl2, Sub.eq rfl ?_ ?_, Nat.lt_succ_self _⟩
     ·(repeat ((conv=>whnf);refine nr ?_));exact trivial
     ·(conv=>whnf);refine no ?_;exact trivial
    ·replace hl2 := ite_f hc12 hl2;cases hl2;(conv=>whnf);refine ⟨hd29, trivial, Sub.eq rfl ?_ ?_⟩
     ·(repeat ((conv=>whnf);refine nr ?_));exact trivial
     ·(conv=>whnf);refine no ?_;exact trivial
  ·rintro hd17 _;obtain ⟨r3, hx16, h⟩ := obind h;obtain ⟨r4, hx17, h⟩ := obind h;(conv=>whnf);refine DrawG.mk (.take 0 (.take 1 (.alt 2 [0] (.alt 3 [] (.take 4 .done) .nil) .nil))) (by kernel_rfl) ?_;(conv=>whnf);refine Both.mk ?_ trivial;(conv=>whnf);refine CallG.pure _ (ref09TreeC hN hx16) ?_;(conv=>whnf);refine nl ?_;(conv=>whnf);refine Both.mk ?_ trivial;(conv=>whnf);refine CallG.pure _ (ref09CoursesC hN hx17) ?_;obtain ⟨l29, hx81, h⟩ := obind h;(conv=>whnf);refine SeqG.mk Unit (fun y => [(3, .sl 17 hd17)]) (fun y => [(17, .arr hd17 3 1 false (List.map I l29))]) (fun _ => True) ?_ ?_
   ·(conv=>whnf);refine LoopG.mk (Nat × (Int × (List Int))) (fun y => [(1, .d (.ref (.agg [.int .u8 c1.fForm, I c1.fPlayers, I c1.fGames, .list 3 (List.map Ref09Result.enc c1.fResults)]))), (3, .sl 17 hd17), (5, .d (.list 1 (List.map (fun x => .list 1 (List.map I x)) r4))), (6, .d (I y.2.1))]) (fun y => [(17, .arr hd17 3 1 false (List.map I y.2.2))]) (fun y => loopN (fun rr x => ref09Least_b2 N c1 r4 rr x.1 x.2) y.1 y.2 = some l29) (fun y => y.1) (N, (0, l11)) hx81 (Sub.eq rfl ?_ ?_) ?_
    ·(repeat ((conv=>whnf);refine nr ?_));exact trivial
    ·(conv=>whnf);refine no ?_;exact trivial
    ·rintro ⟨n4, ⟨i8, l35⟩⟩ hl4;obtain ⟨n4, rfl, hl4⟩ := loopN_some hl4;replace hl4 : ref09Least_b2 N c1 r4 (loopN (fun rr x => ref09Least_b2 N c1 r4 rr x.1 x.2) n4) i8 l35 = some l29 := hl4;rw [ref09Least_b2] at hl4;(conv=>whnf);refine LnA.mk _ (List.length_map _) ?_;(conv=>whnf);refine Br.mk (fun hc54 => ?_) (fun hc54 => ?_)
     ·replace hl4 := ite_t hc54 hl4;obtain ⟨l36, hx134, hl4⟩ := obind hl4;(conv=>whnf);refine SeqG.mk Unit (fun y => [(1, .d (.ref (.agg [.int .u8 c1.fForm, I c1.fPlayers, I c1.fGames, .list 3 (List.map Ref09Result.enc c1.fResults)]))), (3, .sl 17 hd17), (5, .d (.list 1 (List.map (fun x => .list 1 (List.map I x)) r4))), (6, .d (I i8))]) (fun y => [(17, .arr hd17 3 1 false (List.map I l36))]) (fun _ => True) ?_ ?_
      ·obtain ⟨x80, hx137, hx134⟩ := obind hx134;obtain ⟨x81, hx138, hx134⟩ := obind hx134;(conv=>whnf);refine DrawG.mk (.take 0 (.take 1 (.take 2 (.take 3 (.take 4 (.take 5 (.take 6 (.take 7 (.take 8 (.take 9 (.take 10 (.take 11 (.take 12 .done))))))))))))) (by kernel_rfl) ?_;(conv=>whnf);refine Side.mk rfl ⟨_, idx_0 hx137, idx_map _ hx137, ?_⟩;(conv=>whnf);refine Side.mk rfl ⟨_, idx_0 hx137, idx_map _ hx137, ?_⟩;(conv=>whnf);refine LnA.mk _ (List.length_map _) ?_;(conv=>whnf);refine Side.mk rfl ⟨_, idx_0 hx138, idx_map _ hx138, ?_⟩;obtain ⟨r28, hx140, hx134⟩ := obind hx134;(conv=>whnf);refine DrawG.mk (.take 0 (.take 1 (.take 2 (.take 3 (.take 4 (.alt 5 [3, 2, 1] (.take 6 .done) .nil)))))) (by kernel_rfl) ?_;(conv=>whnf);refine Side.mk rfl ⟨_, idx_0 hx137, idx_map _ hx137, ?_⟩;(conv=>whnf);refine Both.mk ?_ trivial;(conv=>whnf);refine CallG.pure _ (ref09UpsetsC hN hx140) ?_
       (conv=>whnf);refine Side.mk rfl ⟨_, idx_0 hx137, idx_map _ hx137, ?_⟩;(conv=>whnf);refine nl ?_;(conv=>whnf);refine nl ?_;(conv=>whnf);refine nl ?_;obtain ⟨v12, hx142, hx134⟩ := obind hx134;(conv=>whnf);refine SeqG.mk Unit (fun y => [(1, .d (.ref (.agg [.int .u8 c1.fForm, I c1.fPlayers, I c1.fGames, .list 3 (List.map Ref09Result.enc c1.fResults)]))), (3, .sl 17 hd17), (5, .d (.list 1 (List.map (fun x => .list 1 (List.map I x)) r4))), (6, .d (I i8)), (7, .d (I x81)), (8, .d (I r28)), (58, .d (.bool v12))]) (fun y => [(17, .arr hd17 3 1 false (List.map I l35))]) (fun _ => True) ?_ ?_
       ·obtain ⟨x83, hx143, hx142⟩ := obind hx142;(conv=>whnf);refine Side.mk ⟨rfl, rfl⟩ (Need.mk (idx_need _ hx143) ?_);(conv=>whnf);refine Side.mk ⟨rfl, rfl⟩ ⟨_, Int.natCast_nonneg _, idx_el _ hx143, ?_⟩;(conv=>whnf);refine Br.mk (fun hc59 => ?_) (fun hc59 => ?_)
        ·replace hx142 := ite_f hc59 hx142;(conv=>whnf);refine Side.mk ⟨rfl, rfl⟩ (Need.mk (idx_need _ hx143) ?_);(conv=>whnf);refine Side.mk ⟨rfl, rfl⟩ ⟨_, Int.natCast_nonneg _, idx_el _ hx143, ?_⟩;cases hx142;(conv=>whnf);refine ⟨(), trivial, Sub.eq rfl ?_ ?_⟩
         ·(repeat ((conv=>whnf);refine nr ?_));exact trivial
         ·(conv=>whnf);refine no ?_;exact trivial
        ·replace hx142 := ite_t hc59 hx142;cases hx142;(conv=>whnf);refine ⟨(), trivial, Sub.eq rfl ?_ ?_⟩
         ·(repeat ((conv=>whnf);refine nr ?_));exact trivial
         ·(conv=>whnf);refine no ?_;exact trivial
       ·rintro _ _;(conv=>whnf);refine Br.mk (fun hc60 => ?_) (fun hc60 => ?_)
        ·replace hx134 := ite_t hc60 hx134;obtain ⟨x84, hx144, hx134⟩ := obind hx134;(conv=>whnf);refine Side.mk ⟨rfl, rfl⟩ (Need.mk (idx_need _ hx144) ?_);(conv=>whnf);refine Side.mk ⟨rfl, rfl⟩ ⟨_, Int.natCast_nonneg _, idx_el _ hx144, ?_⟩;(conv=>whnf);refine Eqv.mk (List.map I (List.set l35 (Int.toNat x81) r28)) (set_map _ _ _ _ rfl) ?_;cases hx134;(conv=>whnf);refine ⟨(), trivial, Sub.eq rfl ?_ ?_⟩
         ·(repeat ((conv=>whnf);refine nr ?_));exact trivial
         ·(conv=>whnf);refine no ?_;exact trivial
        ·replace hx134 := ite_f hc60 hx134;cases hx134;(conv=>whnf);refine ⟨(), trivial, Sub.eq rfl ?_ ?_⟩
         ·(repeat ((conv=>whnf);refine nr ?_));exact trivial
         ·(conv=>whnf);refine no ?_;exact trivial
      ·rintro _ _;(conv=>whnf);refine ⟨(n4, (w64 (i8 + 1), l36)), hl4, Sub.eq rfl ?_ ?_, Nat.lt_succ_self _⟩
       ·(repeat ((conv=>whnf);refine nr ?_));exact trivial
       ·(conv=>whnf);refine no ?_;exact trivial
     ·replace hl4 := ite_f hc54 hl4;cases hl4;(conv=>whnf);refine ⟨(), trivial, Sub.eq rfl ?_ ?_⟩
      ·(repeat ((conv=>whnf);refine nr ?_));exact trivial
      ·(conv=>whnf);refine no ?_;exact trivial
   ·rintro _ _;(conv=>whnf);refine sr ?_;(conv=>whnf);cases h;exact rfl
end Go.Proofs.Ytbceakhnnnfiaaa
