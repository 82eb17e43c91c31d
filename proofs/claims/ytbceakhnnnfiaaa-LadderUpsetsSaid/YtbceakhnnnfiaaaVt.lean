/-
  Walks: what the typed functions compute, the program’s functions return.
-/
import Derived.Test.YtbceakhnnnfiaaaWe
import Derived.Test.YtbceakhnnnfiaaaVe
import Derived.Test.YtbceakhnnnfiaaaVh
namespace Go.Proofs.Ytbceakhnnnfiaaa
open Go Go.Abs Go.Kp
set_option maxRecDepth 100000
set_option maxHeartbeats 8000000
set_option linter.all false

theorem ref09IsCourseC {N : Nat} (hN : N ≤ 1073741824) {c1 : Ref09Cup} {winners1 : List Int} {r : Bool} (h : ref09IsCourse N c1 winners1 = some r) :
    ACalls Try.prog 44 [.d (.agg [.int .u8 c1.fForm, I c1.fPlayers, I c1.fGames, .list 3 (List.map Ref09Result.enc c1.fResults)]), .d (.list 1 (List.map I winners1))] [] fun e os => e = .ret (.d (.bool r)) ∧ os = [] := by
  refine acalls_f (fresh := false) tt_ok dr_ok ⟨[2], [], [], [], [9, 1004], 0, []⟩ Try.func44 rfl Try.call44 rfl ?_
  unfold ref09IsCourse at h
  obtain ⟨r2, hx2, h⟩ := obind h;(conv=>whnf);refine CallG.pure _ (ref09TreeC hN hx2) ?_;(conv=>whnf);refine LnA.mk _ (List.length_map _) ?_;(conv=>whnf);refine LnA.mk _ (List.length_map _) ?_;(conv=>whnf);refine Br.mk (fun hc2 => ?_) (fun hc2 => ?_)
  ·replace h := ite_t hc2 h;(conv=>whnf);cases h;exact rfl
  ·replace h := ite_f hc2 h;(conv=>whnf);refine SeqG.mk Unit (fun y => []) (fun y => []) (fun y => ref09IsCourse_k1 N = some r) ?_ ?_
   ·(conv=>whnf);refine LoopG.mk (Nat × Int) (fun y => [(1, .d (.list 1 (List.map I winners1))), (2, .d (.ref (.agg [.int .u8 c1.fForm, I c1.fPlayers, I c1.fGames, .list 3 (List.map Ref09Result.enc c1.fResults)]))), (5, .d (.list 4 (List.map Ref09Pair.enc r2))), (6, .d (I y.2))]) (fun y => []) (fun y => loopN (fun rr x => ref09IsCourse_b2 N c1 winners1 r2 rr x) y.1 y.2 = some r) (fun y => y.1) (N, 0) h (Sub.eq rfl ?_ ?_) ?_
    ·(repeat ((conv=>whnf);refine nr ?_));exact trivial
    ·exact trivial
    ·rintro ⟨n10, n9⟩ hl2;obtain ⟨n10, rfl, hl2⟩ := loopN_some hl2;replace hl2 : ref09IsCourse_b2 N c1 winners1 r2 (loopN (fun rr x => ref09IsCourse_b2 N c1 winners1 r2 rr x) n10) n9 = some r := hl2;rw [ref09IsCourse_b2] at hl2;(conv=>whnf);refine LnA.mk _ (List.length_map _) ?_;(conv=>whnf);refine Br.mk (fun hc104 => ?_) (fun hc104 => ?_)
     ·replace hl2 := ite_t hc104 hl2;obtain ⟨x46, hx127, hl2⟩ := obind hl2;obtain ⟨r71, hx128, hl2⟩ := obind hl2;obtain ⟨r72, hx129, hl2⟩ := obind hl2;(conv=>whnf);refine DrawG.mk (.take 0 (.take 1 (.take 2 (.take 3 (.take 4 (.take 5 (.take 7 (.take 8 (.take 9 (.take 10 (.take 11 (.take 12 (.alt 6 [12, 11, 10, 9, 8, 7, 3, 2, 1, 0] (.alt 13 [10, 9, 8, 7, 3, 2, 1, 0] (.take 14 (.take 15 .done)) .nil) .nil))))))))))))) (by kernel_rfl) ?_;(conv=>whnf);refine Side.mk rfl ⟨_, idx_0 hx127, idx_map _ hx127, ?_⟩;(conv=>whnf);refine Side.mk rfl ⟨_, idx_0 hx127, idx_map _ hx127, ?_⟩;(conv=>whnf);refine Both.mk ?_ trivial;(conv=>whnf);refine CallG.pure _ (ref09ComesC hN hx128) ?_;(conv=>whnf);refine nl ?_;(conv=>whnf);refine nl ?_;(conv=>whnf);refine nl ?_;(conv=>whnf);refine Side.mk rfl ⟨_, idx_0 hx127, idx_map _ hx127, ?_⟩;(conv=>whnf);refine nl ?_;(conv=>whnf);refine nl ?_;(conv=>whnf)
      refine nl ?_;(conv=>whnf);refine nl ?_;(conv=>whnf);refine Side.mk rfl ⟨_, idx_0 hx127, idx_map _ hx127, ?_⟩;(conv=>whnf);refine nl ?_;(conv=>whnf);refine nl ?_;(conv=>whnf);refine nl ?_;(conv=>whnf);refine Both.mk ?_ trivial;(conv=>whnf);refine CallG.pure _ (ref09ComesC hN hx129) ?_;(conv=>whnf);refine nl ?_;(conv=>whnf);refine Side.mk rfl ⟨_, idx_0 hx127, idx_map _ hx127, ?_⟩;(conv=>whnf);refine nl ?_;(conv=>whnf);refine nl ?_;(conv=>whnf);refine nl ?_;(conv=>whnf);refine nl ?_;(conv=>whnf);refine Side.mk rfl ⟨_, idx_0 hx127, idx_map _ hx127, ?_⟩;(conv=>whnf);refine nl ?_;(conv=>whnf);refine nl ?_;(conv=>whnf);refine nl ?_;obtain ⟨r74, hx131, hl2⟩ := obind hl2;(conv=>whnf);refine CallG.pure _ (ref09SettledC hN hx131) ?_;obtain ⟨v12, hx133, hl2⟩ := obind hl2;(conv=>whnf)
      refine SeqG.mk Unit (fun y => [(1, .d (.list 1 (List.map I winners1))), (2, .d (.ref (.agg [.int .u8 c1.fForm, I c1.fPlayers, I c1.fGames, .list 3 (List.map Ref09Result.enc c1.fResults)]))), (5, .d (.list 4 (List.map Ref09Pair.enc r2))), (6, .d (I n9)), (67, .d (.bool v12))]) (fun y => []) (fun _ => True) ?_ ?_
      ·obtain ⟨x48, hx134, hx133⟩ := obind hx133;(conv=>whnf);refine Side.mk rfl ⟨_, idx_0 hx134, idx_map _ hx134, ?_⟩;(conv=>whnf);refine Br.mk (fun hc118 => ?_) (fun hc118 => ?_)
       ·replace hx133 := ite_t hc118 hx133;(conv=>whnf);refine Side.mk rfl ⟨_, idx_0 hx134, idx_map _ hx134, ?_⟩;(conv=>whnf);refine Br.mk (fun hc119 => ?_) (fun hc119 => ?_)
        ·replace hx133 := ite_f hc119 hx133;(conv=>whnf);refine Br.mk (fun hc120 => ?_) (fun hc120 => ?_)
         ·replace hx133 := ite_t hc120 hx133;(conv=>whnf);refine Side.mk rfl ⟨_, idx_0 hx134, idx_map _ hx134, ?_⟩;cases hx133;(conv=>whnf);refine ⟨(), trivial, Sub.eq rfl ?_ ?_⟩
          ·(repeat ((conv=>whnf);refine nr ?_));exact trivial
          ·exact trivial
         ·replace hx133 := ite_f hc120 hx133;cases hx133;(conv=>whnf);refine ⟨(), trivial, Sub.eq rfl ?_ ?_⟩
          ·(repeat ((conv=>whnf);refine nr ?_));exact trivial
          ·exact trivial
        ·replace hx133 := ite_t hc119 hx133;cases hx133;(conv=>whnf);refine ⟨(), trivial, Sub.eq rfl ?_ ?_⟩
         ·(repeat ((conv=>whnf);refine nr ?_));exact trivial
         ·exact trivial
       ·replace hx133 := ite_f hc118 hx133;(conv=>whnf);refine Br.mk (fun hc121 => ?_) (fun hc121 => ?_)
        ·replace hx133 := ite_t hc121 hx133;(conv=>whnf);refine Side.mk rfl ⟨_, idx_0 hx134, idx_map _ hx134, ?_⟩;cases hx133;(conv=>whnf);refine ⟨(), trivial, Sub.eq rfl ?_ ?_⟩
         ·(repeat ((conv=>whnf);refine nr ?_));exact trivial
         ·exact trivial
        ·replace hx133 := ite_f hc121 hx133;cases hx133;(conv=>whnf);refine ⟨(), trivial, Sub.eq rfl ?_ ?_⟩
         ·(repeat ((conv=>whnf);refine nr ?_));exact trivial
         ·exact trivial
      ·rintro _ _;(conv=>whnf);refine Br.mk (fun hc122 => ?_) (fun hc122 => ?_)
       ·replace hl2 := ite_t hc122 hl2;(conv=>whnf);cases hl2;exact rfl
       ·replace hl2 := ite_f hc122 hl2;(conv=>whnf);refine ⟨(n10, w64 (n9 + 1)), hl2, Sub.eq rfl ?_ ?_, Nat.lt_succ_self _⟩
        ·(repeat ((conv=>whnf);refine nr ?_));exact trivial
        ·exact trivial
     ·replace hl2 := ite_f hc104 hl2;(conv=>whnf);refine ⟨(), hl2, Sub.eq rfl ?_ ?_⟩
      ·(repeat ((conv=>whnf);refine nr ?_));exact trivial
      ·exact trivial
   ·clear h;rintro _ h;unfold ref09IsCourse_k1 at h;(conv=>whnf);cases h;exact rfl
end Go.Proofs.Ytbceakhnnnfiaaa
