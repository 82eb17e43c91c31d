/-
  Walks: what the typed functions compute, the program’s functions return.
-/
import Derived.Test.YtbceakhnnnfiaaaWe
import Derived.Test.YtbceakhnnnfiaaaVe
import Derived.Test.YtbceakhnnnfiaaaVh
namespace Go.Proofs.Ytbceakhnnnfiaaa
open Go Go.Abs Go.Kp
set_option maxRecDepth 100000
set_option maxHeartbeats 8000000
set_option linter.all false

theorem law09CourseC {N : Nat} (hN : N ≤ 1073741824) {c1 : Ref09Cup} {words1 : List Int} {r : (List Int)} (h : law09Course N c1 words1 = some r) :
    ACalls Try.prog 47 [.d (.agg [.int .u8 c1.fForm, I c1.fPlayers, I c1.fGames, .list 3 (List.map Ref09Result.enc c1.fResults)]), .d (.list 1 (List.map (fun x => .int .u8 x) words1))] [] fun e os => e = .ret (.d (.list 1 (List.map I r))) ∧ os = [] := by
  refine acalls_f (fresh := false) tt_ok dr_ok ⟨[2], [], [], [], [1003, 1007, 1010, 1012], 0, []⟩ Try.func47 rfl Try.call47 rfl ?_
  unfold law09Course at h
  obtain ⟨r2, hx2, h⟩ := obind h;(conv=>whnf);refine CallG.pure _ (ref09TreeC hN hx2) ?_;obtain ⟨l15, hx147, h⟩ := obind h;(conv=>whnf);refine SeqG.mk Value (fun y => [(6, .sl 58 y)]) (fun y => [(58, .arr y 3 1 true (List.map I l15))]) (fun _ => True) ?_ ?_
  ·(conv=>whnf);refine LoopG.mk (Nat × (Int × (List Int)) × Value) (fun y => [(1, .d (.list 1 (List.map (fun x => .int .u8 x) words1))), (2, .d (.ref (.agg [.int .u8 c1.fForm, I c1.fPlayers, I c1.fGames, .list 3 (List.map Ref09Result.enc c1.fResults)]))), (5, .d (.list 4 (List.map Ref09Pair.enc r2))), (6, .sl 58 y.2.2), (7, .d (I y.2.1.1))]) (fun y => [(58, .arr y.2.2 3 1 true (List.map I y.2.1.2))]) (fun y => loopN (fun rr x => law09Course_b1 N c1 words1 r2 rr x.1 x.2) y.1 y.2.1 = some l15) (fun y => y.1) (N, (0, []), (.slice none 0 0)) hx147 (Sub.eq rfl ?_ ?_) ?_
   ·(repeat ((conv=>whnf);refine nr ?_));exact trivial
   ·(conv=>whnf);refine Need.mk (OLe.nil _ _ _ _) ?_;exact trivial
   ·rintro ⟨n14, ⟨n13, l27⟩, hd41⟩ hl2;obtain ⟨n14, rfl, hl2⟩ := loopN_some hl2;replace hl2 : law09Course_b1 N c1 words1 r2 (loopN (fun rr x => law09Course_b1 N c1 words1 r2 rr x.1 x.2) n14) n13 l27 = some l15 := hl2;rw [law09Course_b1] at hl2;(conv=>whnf);refine LnA.mk _ (List.length_map _) ?_;(conv=>whnf);refine Br.mk (fun hc100 => ?_) (fun hc100 => ?_)
    ·replace hl2 := ite_t hc100 hl2;obtain ⟨w16, hx276, hl2⟩ := obind hl2;(conv=>whnf);refine SeqG.mk Unit (fun y => [(1, .d (.list 1 (List.map (fun x => .int .u8 x) words1))), (2, .d (.ref (.agg [.int .u8 c1.fForm, I c1.fPlayers, I c1.fGames, .list 3 (List.map Ref09Result.enc c1.fResults)]))), (5, .d (.list 4 (List.map Ref09Pair.enc r2))), (6, .sl 58 hd41), (7, .d (I n13)), (8, .d (I w16))]) (fun y => [(58, .arr hd41 3 1 true (List.map I l27))]) (fun _ => True) ?_ ?_
     ·(conv=>whnf);refine LnA.mk _ (List.length_map _) ?_;(conv=>whnf);refine Br.mk (fun hc108 => ?_) (fun hc108 => ?_)
      ·replace hx276 := ite_t hc108 hx276;(conv=>whnf);refine LnA.mk _ (List.length_map _) ?_;obtain ⟨_, hx277, hx276⟩ := obind hx276;(conv=>whnf);refine Need.mk (nz_ne hx277) ?_;obtain ⟨x62, hx278, hx276⟩ := obind hx276;(conv=>whnf);refine Side.mk rfl ⟨_, idx_0 hx278, idx_map _ hx278, ?_⟩;cases hx276;(conv=>whnf);refine ⟨(), trivial, Sub.eq rfl ?_ ?_⟩
       ·(repeat ((conv=>whnf);refine nr ?_));exact trivial
       ·(conv=>whnf);refine no ?_;exact trivial
      ·replace hx276 := ite_f hc108 hx276;cases hx276;(conv=>whnf);refine ⟨(), trivial, Sub.eq rfl ?_ ?_⟩
       ·(repeat ((conv=>whnf);refine nr ?_));exact trivial
       ·(conv=>whnf);refine no ?_;exact trivial
     ·rintro _ _;obtain ⟨x64, hx281, hl2⟩ := obind hl2;(conv=>whnf);refine Side.mk rfl ⟨_, idx_0 hx281, idx_map _ hx281, ?_⟩;obtain ⟨r124, hx282, hl2⟩ := obind hl2;(conv=>whnf);refine sr ?_;(conv=>whnf);refine CallG.pure _ (ref09ComesC hN hx282) ?_;obtain ⟨p31, hx284, hl2⟩ := obind hl2;(conv=>whnf);refine SeqG.mk Unit (fun y => [(1, .d (.list 1 (List.map (fun x => .int .u8 x) words1))), (2, .d (.ref (.agg [.int .u8 c1.fForm, I c1.fPlayers, I c1.fGames, .list 3 (List.map Ref09Result.enc c1.fResults)]))), (5, .d (.list 4 (List.map Ref09Pair.enc r2))), (6, .sl 58 hd41), (7, .d (I n13)), (9, .d (I p31))]) (fun y => [(58, .arr hd41 3 1 true (List.map I l27))]) (fun _ => True) ?_ ?_
      ·(conv=>whnf);refine Need.mk (by decide) ?_;(conv=>whnf);refine Br.mk (fun hc110 => ?_) (fun hc110 => ?_)
       ·replace hx284 := ite_t hc110 hx284;(conv=>whnf);refine Side.mk rfl ⟨_, idx_0 hx281, idx_map _ hx281, ?_⟩;obtain ⟨r126, hx285, hx284⟩ := obind hx284;(conv=>whnf);refine sr ?_;(conv=>whnf);refine CallG.pure _ (ref09ComesC hN hx285) ?_;cases hx284;(conv=>whnf);refine ⟨(), trivial, Sub.eq rfl ?_ ?_⟩
        ·(repeat ((conv=>whnf);refine nr ?_));exact trivial
        ·(conv=>whnf);refine no ?_;exact trivial
       ·replace hx284 := ite_f hc110 hx284;cases hx284;(conv=>whnf);refine ⟨(), trivial, Sub.eq rfl ?_ ?_⟩
        ·(repeat ((conv=>whnf);refine nr ?_));exact trivial
        ·(conv=>whnf);refine no ?_;exact trivial
      ·rintro _ _;obtain ⟨p32, hx288, hl2⟩ := obind hl2;(conv=>whnf);refine SeqG.mk Unit (fun y => [(1, .d (.list 1 (List.map (fun x => .int .u8 x) words1))), (2, .d (.ref (.agg [.int .u8 c1.fForm, I c1.fPlayers, I c1.fGames, .list 3 (List.map Ref09Result.enc c1.fResults)]))), (5, .d (.list 4 (List.map Ref09Pair.enc r2))), (6, .sl 58 hd41), (7, .d (I n13)), (9, .d (I p32))]) (fun y => [(58, .arr hd41 3 1 true (List.map I l27))]) (fun _ => True) ?_ ?_
       ·obtain ⟨r130, hx290, hx288⟩ := obind hx288;(conv=>whnf);refine sr ?_;(conv=>whnf);refine CallG.pure _ (ref09SettledC hN hx290) ?_;(conv=>whnf);refine Br.mk (fun hc112 => ?_) (fun hc112 => ?_)
        ·replace hx288 := ite_t hc112 hx288;cases hx288;(conv=>whnf);refine ⟨(), trivial, Sub.eq rfl ?_ ?_⟩
         ·(repeat ((conv=>whnf);refine nr ?_));exact trivial
         ·(conv=>whnf);refine no ?_;exact trivial
        ·replace hx288 := ite_f hc112 hx288;cases hx288;(conv=>whnf);refine ⟨(), trivial, Sub.eq rfl ?_ ?_⟩
         ·(repeat ((conv=>whnf);refine nr ?_));exact trivial
         ·(conv=>whnf);refine no ?_;exact trivial
       ·rintro _ _;(conv=>whnf);intro hd44;obtain ⟨l29, hx291, hl2⟩ := obind hl2;(conv=>whnf);refine Side.mk ⟨rfl, rfl⟩ ?_;(conv=>whnf);refine Side.mk ⟨rfl, rfl, rfl⟩ (Need.mk (app_need hN hx291 (by decide)) (Eqv.mk (List.map I l29) (app_map _ hx291) ?_));(conv=>whnf);intro hd45;(conv=>whnf);refine ⟨(n14, (w64 (n13 + 1), l29), hd45), hl2, Sub.eq rfl ?_ ?_, Nat.lt_succ_self _⟩
        ·(repeat ((conv=>whnf);refine nr ?_));exact trivial
        ·(conv=>whnf);refine no ?_;exact trivial
    ·replace hl2 := ite_f hc100 hl2;cases hl2;(conv=>whnf);refine ⟨hd41, trivial, Sub.eq rfl ?_ ?_⟩
     ·(repeat ((conv=>whnf);refine nr ?_));exact trivial
     ·(conv=>whnf);refine no ?_;exact trivial
  ·rintro hd23 _;(conv=>whnf);refine sr ?_;(conv=>whnf);cases h;exact rfl
end Go.Proofs.Ytbceakhnnnfiaaa
