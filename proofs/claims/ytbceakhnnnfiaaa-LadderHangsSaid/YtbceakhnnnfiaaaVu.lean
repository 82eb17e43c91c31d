/-
  Walks: what the typed functions compute, the program’s functions return.
-/
import Derived.Test.YtbceakhnnnfiaaaWe
import Derived.Test.YtbceakhnnnfiaaaVe
import Derived.Test.YtbceakhnnnfiaaaVh
import Derived.Test.YtbceakhnnnfiaaaVk
namespace Go.Proofs.Ytbceakhnnnfiaaa
open Go Go.Abs Go.Kp
set_option maxRecDepth 100000
set_option maxHeartbeats 8000000
set_option linter.all false

theorem ref09HangsC {N : Nat} (hN : N ≤ 1073741824) {c1 : Ref09Cup} {r : (List Int)} (h : ref09Hangs N c1 = some r) :
    ACalls Try.prog 26 [.d (.agg [.int .u8 c1.fForm, I c1.fPlayers, I c1.fGames, .list 3 (List.map Ref09Result.enc c1.fResults)])] [] fun e os => e = .ret (.d (.list 1 (List.map I r))) ∧ os = [] := by
  refine acalls_f (fresh := false) tt_ok dr_ok ⟨[1], [], [], [], [8, 1004, 1007, 1010, 1013], 0, []⟩ Try.func26 rfl Try.call26 rfl ?_
  unfold ref09Hangs at h
  obtain ⟨r2, hx2, h⟩ := obind h;(conv=>whnf);refine CallG.pure _ (ref09TreeC hN hx2) ?_;obtain ⟨r4, hx4, h⟩ := obind h;(conv=>whnf);refine CallG.pure _ (ref09CoursesC hN hx4) ?_;obtain ⟨l14, hx272, h⟩ := obind h;(conv=>whnf);refine SeqG.mk Value (fun y => [(5, .sl 62 y)]) (fun y => [(62, .arr y 3 1 false (List.map I l14))]) (fun _ => True) ?_ ?_
  ·(conv=>whnf);refine LoopG.mk (Nat × (Int × (List Int)) × Value) (fun y => [(1, .d (.ref (.agg [.int .u8 c1.fForm, I c1.fPlayers, I c1.fGames, .list 3 (List.map Ref09Result.enc c1.fResults)]))), (3, .d (.list 4 (List.map Ref09Pair.enc r2))), (4, .d (.list 1 (List.map (fun x => .list 1 (List.map I x)) r4))), (5, .sl 62 y.2.2), (6, .d (I y.2.1.1))]) (fun y => [(62, .arr y.2.2 3 1 false (List.map I y.2.1.2))]) (fun y => loopN (fun rr x => ref09Hangs_b2 N c1 r2 r4 rr x.1 x.2) y.1 y.2.1 = some l14) (fun y => y.1) (N, (0, []), (.slice none 0 0)) hx272 (Sub.eq rfl ?_ ?_) ?_
   ·(repeat ((conv=>whnf);refine nr ?_));exact trivial
   ·(conv=>whnf);refine Need.mk (OLe.nil _ _ _ _) ?_;exact trivial
   ·rintro ⟨n30, ⟨n29, l24⟩, hd34⟩ hl22;obtain ⟨n30, rfl, hl22⟩ := loopN_some hl22;replace hl22 : ref09Hangs_b2 N c1 r2 r4 (loopN (fun rr x => ref09Hangs_b2 N c1 r2 r4 rr x.1 x.2) n30) n29 l24 = some l14 := hl22;rw [ref09Hangs_b2] at hl22;(conv=>whnf);refine LnA.mk _ (List.length_map _) ?_;(conv=>whnf);refine Br.mk (fun hc322 => ?_) (fun hc322 => ?_)
    ·replace hl22 := ite_t hc322 hl22;obtain ⟨l26, hx495, hl22⟩ := obind hl22;(conv=>whnf);refine SeqG.mk Value (fun y => [(1, .d (.ref (.agg [.int .u8 c1.fForm, I c1.fPlayers, I c1.fGames, .list 3 (List.map Ref09Result.enc c1.fResults)]))), (3, .d (.list 4 (List.map Ref09Pair.enc r2))), (4, .d (.list 1 (List.map (fun x => .list 1 (List.map I x)) r4))), (5, .sl 62 y), (6, .d (I n29))]) (fun y => [(62, .arr y 3 1 false (List.map I l26))]) (fun _ => True) ?_ ?_
     ·obtain ⟨r204, hx497, hx495⟩ := obind hx495;(conv=>whnf);refine CallG.pure _ (ref09FindC hN hx497) ?_;obtain ⟨v90, hx505, hx495⟩ := obind hx495;(conv=>whnf);refine SeqG.mk Unit (fun y => [(1, .d (.ref (.agg [.int .u8 c1.fForm, I c1.fPlayers, I c1.fGames, .list 3 (List.map Ref09Result.enc c1.fResults)]))), (3, .d (.list 4 (List.map Ref09Pair.enc r2))), (4, .d (.list 1 (List.map (fun x => .list 1 (List.map I x)) r4))), (5, .sl 62 hd34), (6, .d (I n29)), (39, .d (.bool v90))]) (fun y => [(62, .arr hd34 3 1 false (List.map I l24))]) (fun _ => True) ?_ ?_
      ·(conv=>whnf);refine Br.mk (fun hc361 => ?_) (fun hc361 => ?_)
       ·replace hx505 := ite_f hc361 hx505;obtain ⟨x180, hx506, hx505⟩ := obind hx505;(conv=>whnf);refine Side.mk rfl ⟨_, idx_0 hx506, idx_map _ hx506, ?_⟩;(conv=>whnf);refine Br.mk (fun hc362 => ?_) (fun hc362 => ?_)
        ·replace hx505 := ite_f hc362 hx505;obtain ⟨r208, hx507, hx505⟩ := obind hx505;(conv=>whnf);refine CallG.pure _ (ref09WonC hN hx507) ?_;cases hx505;(conv=>whnf);refine ⟨(), trivial, Sub.eq rfl ?_ ?_⟩
         ·(repeat ((conv=>whnf);refine nr ?_));exact trivial
         ·(conv=>whnf);refine no ?_;exact trivial
        ·replace hx505 := ite_t hc362 hx505;cases hx505;(conv=>whnf);refine ⟨(), trivial, Sub.eq rfl ?_ ?_⟩
         ·(repeat ((conv=>whnf);refine nr ?_));exact trivial
         ·(conv=>whnf);refine no ?_;exact trivial
       ·replace hx505 := ite_t hc361 hx505;cases hx505;(conv=>whnf);refine ⟨(), trivial, Sub.eq rfl ?_ ?_⟩
        ·(repeat ((conv=>whnf);refine nr ?_));exact trivial
        ·(conv=>whnf);refine no ?_;exact trivial
      ·rintro _ _;(conv=>whnf);refine Br.mk (fun hc363 => ?_) (fun hc363 => ?_)
       ·replace hx495 := ite_t hc363 hx495;cases hx495;(conv=>whnf);refine ⟨hd34, trivial, Sub.eq rfl ?_ ?_⟩
        ·(repeat ((conv=>whnf);refine nr ?_));exact trivial
        ·(conv=>whnf);refine no ?_;exact trivial
       ·replace hx495 := ite_f hc363 hx495;obtain ⟨hangs173, hx523, hx495⟩ := obind hx495;(conv=>whnf);refine SeqG.mk Unit (fun y => [(1, .d (.ref (.agg [.int .u8 c1.fForm, I c1.fPlayers, I c1.fGames, .list 3 (List.map Ref09Result.enc c1.fResults)]))), (3, .d (.list 4 (List.map Ref09Pair.enc r2))), (4, .d (.list 1 (List.map (fun x => .list 1 (List.map I x)) r4))), (5, .sl 62 hd34), (6, .d (I n29)), (8, .d (.bool hangs173))]) (fun y => [(62, .arr hd34 3 1 false (List.map I l24))]) (fun _ => True) ?_ ?_
        ·(conv=>whnf);refine LoopG.mk (Nat × (Bool × Int)) (fun y => [(1, .d (.ref (.agg [.int .u8 c1.fForm, I c1.fPlayers, I c1.fGames, .list 3 (List.map Ref09Result.enc c1.fResults)]))), (3, .d (.list 4 (List.map Ref09Pair.enc r2))), (4, .d (.list 1 (List.map (fun x => .list 1 (List.map I x)) r4))), (5, .sl 62 hd34), (6, .d (I n29)), (8, .d (.bool y.2.1)), (9, .d (I y.2.2))]) (fun y => [(62, .arr hd34 3 1 false (List.map I l24))]) (fun y => loopN (fun rr x => ref09Hangs_b1 N c1 r2 r4 n29 rr x.1 x.2) y.1 y.2 = some hangs173) (fun y => y.1) (N, (false, 0)) hx523 (Sub.eq rfl ?_ ?_) ?_
         ·(repeat ((conv=>whnf);refine nr ?_));exact trivial
         ·(conv=>whnf);refine no ?_;exact trivial
         ·rintro ⟨n34, ⟨hangs179, k96⟩⟩ hl26;obtain ⟨n34, rfl, hl26⟩ := loopN_some hl26;replace hl26 : ref09Hangs_b1 N c1 r2 r4 n29 (loopN (fun rr x => ref09Hangs_b1 N c1 r2 r4 n29 rr x.1 x.2) n34) hangs179 k96 = some hangs173 := hl26;rw [ref09Hangs_b1] at hl26;(conv=>whnf);refine LnA.mk _ (List.length_map _) ?_;(conv=>whnf);refine Br.mk (fun hc381 => ?_) (fun hc381 => ?_)
          ·replace hl26 := ite_t hc381 hl26;obtain ⟨hangs180, hx536, hl26⟩ := obind hl26;(conv=>whnf);refine SeqG.mk Unit (fun y => [(1, .d (.ref (.agg [.int .u8 c1.fForm, I c1.fPlayers, I c1.fGames, .list 3 (List.map Ref09Result.enc c1.fResults)]))), (3, .d (.list 4 (List.map Ref09Pair.enc r2))), (4, .d (.list 1 (List.map (fun x => .list 1 (List.map I x)) r4))), (5, .sl 62 hd34), (6, .d (I n29)), (8, .d (.bool hangs180)), (9, .d (I k96))]) (fun y => [(62, .arr hd34 3 1 false (List.map I l24))]) (fun _ => True) ?_ ?_
           ·(conv=>whnf);refine DrawG.mk (.take 0 (.take 1 (.spl 47 (.take 2 (.take 3 (.take 4 (.take 5 (.take 6 (.take 7 (.take 8 (.alt 9 [7, 6, 5, 0] (.take 10 (.take 11 (.alt 12 [] .done .nil))) .nil))))))))))) (by kernel_rfl) ?_;(conv=>whnf);refine Br.mk (fun hc383 => ?_) (fun hc383 => ?_)
            ·replace hx536 := ite_t hc383 hx536;(conv=>whnf);refine Both.mk ?_ trivial;(conv=>whnf);refine nr ?_;(conv=>whnf);refine nr ?_;(conv=>whnf);refine nr ?_;(conv=>whnf);refine nl ?_;(conv=>whnf);refine Both.mk ?_ trivial;cases hx536;(conv=>whnf);refine ⟨(), trivial, Sub.eq rfl ?_ ?_⟩
             ·(repeat ((conv=>whnf);refine nr ?_));exact trivial
             ·(conv=>whnf);refine no ?_;exact trivial
            ·replace hx536 := ite_f hc383 hx536;obtain ⟨x192, hx537, hx536⟩ := obind hx536;obtain ⟨r220, hx538, hx536⟩ := obind hx536;(conv=>whnf);refine Side.mk rfl ⟨_, idx_0 hx537, idx_map _ hx537, ?_⟩;(conv=>whnf);refine Both.mk ?_ trivial;(conv=>whnf);refine CallG.pure _ (ref09HoldsC hN hx538) ?_;(conv=>whnf);refine Side.mk rfl ⟨_, idx_0 hx537, idx_map _ hx537, ?_⟩;(conv=>whnf);refine nl ?_;(conv=>whnf);refine nl ?_;(conv=>whnf);refine nl ?_;(conv=>whnf);refine nl ?_;(conv=>whnf);refine Both.mk ?_ trivial;cases hx536;(conv=>whnf);refine ⟨(), trivial, Sub.eq rfl ?_ ?_⟩
             ·(repeat ((conv=>whnf);refine nr ?_));exact trivial
             ·(conv=>whnf);refine no ?_;exact trivial
           ·rintro _ _;(conv=>whnf);refine ⟨(n34, (hangs180, w64 (k96 + 1))), hl26, Sub.eq rfl ?_ ?_, Nat.lt_succ_self _⟩
            ·(repeat ((conv=>whnf);refine nr ?_));exact trivial
            ·(conv=>whnf);refine no ?_;exact trivial
          ·replace hl26 := ite_f hc381 hl26;cases hl26;(conv=>whnf);refine ⟨(), trivial, Sub.eq rfl ?_ ?_⟩
           ·(repeat ((conv=>whnf);refine nr ?_));exact trivial
           ·(conv=>whnf);refine no ?_;exact trivial
        ·rintro _ _;(conv=>whnf);refine Br.mk (fun hc384 => ?_) (fun hc384 => ?_)
         ·replace hx495 := ite_t hc384 hx495;(conv=>whnf);intro hd38;obtain ⟨l27, hx539, hx495⟩ := obind hx495;(conv=>whnf);refine Side.mk ⟨rfl, rfl⟩ ?_;(conv=>whnf);refine Side.mk ⟨rfl, rfl, rfl⟩ (Need.mk (app_need hN hx539 (by decide)) (Eqv.mk (List.map I l27) (app_map _ hx539) ?_));(conv=>whnf);intro hd39;cases hx495;(conv=>whnf);refine ⟨hd39, trivial, Sub.eq rfl ?_ ?_⟩
          ·(repeat ((conv=>whnf);refine nr ?_));exact trivial
          ·(conv=>whnf);refine no ?_;exact trivial
         ·replace hx495 := ite_f hc384 hx495;cases hx495;(conv=>whnf);refine ⟨hd34, trivial, Sub.eq rfl ?_ ?_⟩
          ·(repeat ((conv=>whnf);refine nr ?_));exact trivial
          ·(conv=>whnf);refine no ?_;exact trivial
     ·rintro hd37 _;(conv=>whnf);refine ⟨(n30, (w64 (n29 + 1), l26), hd37), hl22, Sub.eq rfl ?_ ?_, Nat.lt_succ_self _⟩
      ·(repeat ((conv=>whnf);refine nr ?_));exact trivial
      ·(conv=>whnf);refine no ?_;exact trivial
    ·replace hl22 := ite_f hc322 hl22;cases hl22;(conv=>whnf);refine ⟨hd34, trivial, Sub.eq rfl ?_ ?_⟩
     ·(repeat ((conv=>whnf);refine nr ?_));exact trivial
     ·(conv=>whnf);refine no ?_;exact trivial
  ·rintro hd20 _;(conv=>whnf);refine sr ?_;(conv=>whnf);cases h;exact rfl
end Go.Proofs.Ytbceakhnnnfiaaa
