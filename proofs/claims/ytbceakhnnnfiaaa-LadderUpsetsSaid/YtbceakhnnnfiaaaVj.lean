/-
  Walks: what the typed functions compute, the program’s functions return.
-/
import Derived.Test.YtbceakhnnnfiaaaWe
import Derived.Test.YtbceakhnnnfiaaaVe
import Derived.Test.YtbceakhnnnfiaaaVh
namespace Go.Proofs.Ytbceakhnnnfiaaa
open Go Go.Abs Go.Kp
set_option maxRecDepth 100000
set_option maxHeartbeats 8000000
set_option linter.all false

theorem ref09UpsetsC {N : Nat} (hN : N ≤ 1073741824) {c1 : Ref09Cup} {winners1 : List Int} {r : Int} (h : ref09Upsets N c1 winners1 = some r) :
    ACalls Try.prog 45 [.d (.agg [.int .u8 c1.fForm, I c1.fPlayers, I c1.fGames, .list 3 (List.map Ref09Result.enc c1.fResults)]), .d (.list 1 (List.map I winners1))] [] fun e os => e = .ret (.d (I r)) ∧ os = [] := by
  refine acalls_f (fresh := false) tt_ok dr_ok ⟨[2], [], [], [], [7, 1003, 1006], 0, []⟩ Try.func45 rfl Try.call45 rfl ?_
  unfold ref09Upsets at h
  obtain ⟨r2, hx2, h⟩ := obind h;(conv=>whnf);refine CallG.pure _ (ref09TreeC hN hx2) ?_;obtain ⟨many8, hx72, h⟩ := obind h;(conv=>whnf);refine SeqG.mk Unit (fun y => [(6, .d (I many8))]) (fun y => []) (fun _ => True) ?_ ?_
  ·(conv=>whnf);refine LoopG.mk (Nat × (Int × Int)) (fun y => [(1, .d (.list 1 (List.map I winners1))), (2, .d (.ref (.agg [.int .u8 c1.fForm, I c1.fPlayers, I c1.fGames, .list 3 (List.map Ref09Result.enc c1.fResults)]))), (5, .d (.list 4 (List.map Ref09Pair.enc r2))), (6, .d (I y.2.1)), (7, .d (I y.2.2))]) (fun y => []) (fun y => loopN (fun rr x => ref09Upsets_b1 N c1 winners1 r2 rr x.1 x.2) y.1 y.2 = some many8) (fun y => y.1) (N, (0, 0)) hx72 (Sub.eq rfl ?_ ?_) ?_
   ·(repeat ((conv=>whnf);refine nr ?_));exact trivial
   ·exact trivial
   ·rintro ⟨n10, ⟨many14, n9⟩⟩ hl2;obtain ⟨n10, rfl, hl2⟩ := loopN_some hl2;replace hl2 : ref09Upsets_b1 N c1 winners1 r2 (loopN (fun rr x => ref09Upsets_b1 N c1 winners1 r2 rr x.1 x.2) n10) many14 n9 = some many8 := hl2;rw [ref09Upsets_b1] at hl2;(conv=>whnf);refine LnA.mk _ (List.length_map _) ?_;(conv=>whnf);refine Br.mk (fun hc42 => ?_) (fun hc42 => ?_)
    ·replace hl2 := ite_t hc42 hl2;obtain ⟨many15, hx130, hl2⟩ := obind hl2;(conv=>whnf);refine SeqG.mk Unit (fun y => [(1, .d (.list 1 (List.map I winners1))), (2, .d (.ref (.agg [.int .u8 c1.fForm, I c1.fPlayers, I c1.fGames, .list 3 (List.map Ref09Result.enc c1.fResults)]))), (5, .d (.list 4 (List.map Ref09Pair.enc r2))), (6, .d (I many15)), (7, .d (I n9))]) (fun y => []) (fun _ => True) ?_ ?_
     ·obtain ⟨x46, hx134, hx130⟩ := obind hx130;obtain ⟨r71, hx135, hx130⟩ := obind hx130;obtain ⟨r72, hx136, hx130⟩ := obind hx130;(conv=>whnf);refine DrawG.mk (.take 0 (.take 1 (.take 2 (.take 3 (.take 4 (.take 5 (.take 7 (.take 8 (.take 9 (.take 10 (.take 11 (.take 12 (.alt 6 [12, 11, 10, 9, 8, 7, 3, 2, 1, 0] (.alt 13 [10, 9, 8, 7, 3, 2, 1, 0] (.take 14 (.take 15 .done)) .nil) .nil))))))))))))) (by kernel_rfl) ?_;(conv=>whnf);refine Side.mk rfl ⟨_, idx_0 hx134, idx_map _ hx134, ?_⟩;(conv=>whnf);refine Side.mk rfl ⟨_, idx_0 hx134, idx_map _ hx134, ?_⟩;(conv=>whnf);refine Both.mk ?_ trivial;(conv=>whnf);refine CallG.pure _ (ref09ComesC hN hx135) ?_;(conv=>whnf);refine nl ?_;(conv=>whnf);refine nl ?_;(conv=>whnf);refine nl ?_;(conv=>whnf);refine Side.mk rfl ⟨_, idx_0 hx134, idx_map _ hx134, ?_⟩;(conv=>whnf);refine nl ?_;(conv=>whnf);refine nl ?_;(conv=>whnf);refine nl ?_;(conv=>whnf)
      refine nl ?_;(conv=>whnf);refine Side.mk rfl ⟨_, idx_0 hx134, idx_map _ hx134, ?_⟩;(conv=>whnf);refine nl ?_;(conv=>whnf);refine nl ?_;(conv=>whnf);refine nl ?_;(conv=>whnf);refine Both.mk ?_ trivial;(conv=>whnf);refine CallG.pure _ (ref09ComesC hN hx136) ?_;(conv=>whnf);refine nl ?_;(conv=>whnf);refine Side.mk rfl ⟨_, idx_0 hx134, idx_map _ hx134, ?_⟩;(conv=>whnf);refine nl ?_;(conv=>whnf);refine nl ?_;(conv=>whnf);refine nl ?_;(conv=>whnf);refine nl ?_;(conv=>whnf);refine Side.mk rfl ⟨_, idx_0 hx134, idx_map _ hx134, ?_⟩;(conv=>whnf);refine nl ?_;(conv=>whnf);refine nl ?_;(conv=>whnf);refine nl ?_;obtain ⟨v12, hx139, hx130⟩ := obind hx130;(conv=>whnf)
      refine SeqG.mk Unit (fun y => [(1, .d (.list 1 (List.map I winners1))), (2, .d (.ref (.agg [.int .u8 c1.fForm, I c1.fPlayers, I c1.fGames, .list 3 (List.map Ref09Result.enc c1.fResults)]))), (5, .d (.list 4 (List.map Ref09Pair.enc r2))), (6, .d (I many14)), (7, .d (I n9)), (47, .d (.bool v12))]) (fun y => []) (fun _ => True) ?_ ?_
      ·obtain ⟨r74, hx140, hx139⟩ := obind hx139;(conv=>whnf);refine CallG.pure _ (ref09SettledC hN hx140) ?_;(conv=>whnf);refine Br.mk (fun hc47 => ?_) (fun hc47 => ?_)
       ·replace hx139 := ite_t hc47 hx139;obtain ⟨x48, hx141, hx139⟩ := obind hx139;(conv=>whnf);refine Side.mk rfl ⟨_, idx_0 hx141, idx_map _ hx141, ?_⟩;cases hx139;(conv=>whnf);refine ⟨(), trivial, Sub.eq rfl ?_ ?_⟩
        ·(repeat ((conv=>whnf);refine nr ?_));exact trivial
        ·exact trivial
       ·replace hx139 := ite_f hc47 hx139;cases hx139;(conv=>whnf);refine ⟨(), trivial, Sub.eq rfl ?_ ?_⟩
        ·(repeat ((conv=>whnf);refine nr ?_));exact trivial
        ·exact trivial
      ·rintro _ _;(conv=>whnf);refine Br.mk (fun hc48 => ?_) (fun hc48 => ?_)
       ·replace hx130 := ite_t hc48 hx130;cases hx130;(conv=>whnf);refine ⟨(), trivial, Sub.eq rfl ?_ ?_⟩
        ·(repeat ((conv=>whnf);refine nr ?_));exact trivial
        ·exact trivial
       ·replace hx130 := ite_f hc48 hx130;cases hx130;(conv=>whnf);refine ⟨(), trivial, Sub.eq rfl ?_ ?_⟩
        ·(repeat ((conv=>whnf);refine nr ?_));exact trivial
        ·exact trivial
     ·rintro _ _;(conv=>whnf);refine ⟨(n10, (many15, w64 (n9 + 1))), hl2, Sub.eq rfl ?_ ?_, Nat.lt_succ_self _⟩
      ·(repeat ((conv=>whnf);refine nr ?_));exact trivial
      ·exact trivial
    ·replace hl2 := ite_f hc42 hl2;cases hl2;(conv=>whnf);refine ⟨(), trivial, Sub.eq rfl ?_ ?_⟩
     ·(repeat ((conv=>whnf);refine nr ?_));exact trivial
     ·exact trivial
  ·rintro _ _;(conv=>whnf);cases h;exact rfl
end Go.Proofs.Ytbceakhnnnfiaaa
