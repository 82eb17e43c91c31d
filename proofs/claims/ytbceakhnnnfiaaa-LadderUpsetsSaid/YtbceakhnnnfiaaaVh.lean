/-
  Walks: what the typed functions compute, the program’s functions return.
-/
import Derived.Test.YtbceakhnnnfiaaaWe
import Derived.Test.YtbceakhnnnfiaaaVe
namespace Go.Proofs.Ytbceakhnnnfiaaa
open Go Go.Abs Go.Kp
set_option maxRecDepth 100000
set_option maxHeartbeats 8000000
set_option linter.all false

theorem ref09ComesC {N : Nat} (hN : N ≤ 1073741824) {s1 : Ref09Side} {winners1 : List Int} {r : Int} (h : ref09Comes N s1 winners1 = some r) :
    ACalls Try.prog 68 [.d (.agg [I s1.fPlayer, I s1.fMatch]), .d (.list 1 (List.map I winners1))] [] fun e os => e = .ret (.d (I r)) ∧ os = [] := by
  refine acalls_f (fresh := false) tt_ok dr_ok ⟨[2], [], [], [], [], 0, []⟩ Try.func68 rfl Try.call68 rfl ?_
  unfold ref09Comes at h
  (conv=>whnf);refine Br.mk (fun hc2 => ?_) (fun hc2 => ?_)
  ·replace h := ite_t hc2 h;(conv=>whnf);cases h;exact rfl
  ·replace h := ite_f hc2 h;obtain ⟨x2, hx2, h⟩ := obind h;(conv=>whnf);refine Side.mk rfl ⟨_, idx_0 hx2, idx_map _ hx2, ?_⟩;(conv=>whnf);cases h;exact rfl

theorem ref09HoldsC {N : Nat} (hN : N ≤ 1073741824) {c1 : Ref09Cup} {tree1 : List Ref09Pair} {match1 : Int} {winners1 : List Int} {r : Bool} (h : ref09Holds N c1 tree1 match1 winners1 = some r) :
    ACalls Try.prog 58 [.d (.agg [.int .u8 c1.fForm, I c1.fPlayers, I c1.fGames, .list 3 (List.map Ref09Result.enc c1.fResults)]), .d (.list 4 (List.map Ref09Pair.enc tree1)), .d (I match1), .d (.list 1 (List.map I winners1))] [] fun e os => e = .ret (.d (.bool r)) ∧ os = [] := by
  refine acalls_f (fresh := false) tt_ok dr_ok ⟨[4], [], [], [], [3], 0, []⟩ Try.func58 rfl Try.call58 rfl ?_
  unfold ref09Holds at h
  obtain ⟨r4, hx4, h⟩ := obind h;(conv=>whnf);refine CallG.pure _ (ref09FindC hN hx4) ?_;(conv=>whnf);refine Br.mk (fun hc2 => ?_) (fun hc2 => ?_)
  ·replace h := ite_t hc2 h;(conv=>whnf);cases h;exact rfl
  ·replace h := ite_f hc2 h;obtain ⟨v1, hx10, h⟩ := obind h;(conv=>whnf);refine SeqG.mk Unit (fun y => [(8, .d (.bool v1))]) (fun y => []) (fun _ => True) ?_ ?_
   ·obtain ⟨x2, hx11, hx10⟩ := obind hx10;obtain ⟨r9, hx12, hx10⟩ := obind hx10;obtain ⟨r10, hx13, hx10⟩ := obind hx10;(conv=>whnf);refine DrawG.mk (.take 0 (.take 1 (.take 2 (.take 3 (.take 4 (.take 5 (.take 7 (.take 8 (.take 9 (.take 10 (.take 11 (.take 12 (.alt 6 [12, 11, 10, 9, 8, 7, 4, 3, 2, 1] (.alt 13 [10, 9, 8, 7, 4, 3, 2, 1] (.take 14 (.take 15 (.spl 28 (.take 16 (.take 17 (.take 18 (.take 19 (.take 20 (.take 21 (.take 23 (.take 24 (.take 25 (.take 26 (.take 27 (.take 28 (.alt 22 [28, 27, 26, 25, 24, 23, 20, 19, 18, 17, 14, 10, 9, 8, 7, 4, 3, 2, 1] (.alt 29 [26, 25, 24, 23, 20, 19, 18, 17, 14, 10, 9, 8, 7, 4, 3, 2, 1] (.take 30 (.take 31 (.take 32 .done))) .nil) .nil)))))))))))))))) .nil) .nil))))))))))))) (by kernel_rfl) ?_;(conv=>whnf);refine Side.mk rfl ⟨_, idx_0 hx11, idx_map _ hx11, ?_⟩;(conv=>whnf);refine Side.mk rfl ⟨_, idx_0 hx11, idx_map _ hx11, ?_⟩;(conv=>whnf)
    refine Both.mk ?_ trivial;(conv=>whnf);refine CallG.pure _ (ref09KnownC hN hx12) ?_;(conv=>whnf);refine nl ?_;(conv=>whnf);refine nl ?_;(conv=>whnf);refine nl ?_;(conv=>whnf);refine Side.mk rfl ⟨_, idx_0 hx11, idx_map _ hx11, ?_⟩;(conv=>whnf);refine nl ?_;(conv=>whnf);refine nl ?_;(conv=>whnf);refine nl ?_;(conv=>whnf);refine nl ?_;(conv=>whnf);refine Side.mk rfl ⟨_, idx_0 hx11, idx_map _ hx11, ?_⟩;(conv=>whnf);refine nl ?_;(conv=>whnf);refine nl ?_;(conv=>whnf);refine nl ?_;(conv=>whnf);refine Both.mk ?_ trivial;(conv=>whnf);refine CallG.pure _ (ref09ComesC hN hx13) ?_;(conv=>whnf);refine nl ?_;(conv=>whnf);refine Side.mk rfl ⟨_, idx_0 hx11, idx_map _ hx11, ?_⟩;(conv=>whnf);refine nl ?_;(conv=>whnf);refine nl ?_;(conv=>whnf);refine nl ?_;(conv=>whnf);refine nl ?_;(conv=>whnf);refine Side.mk rfl ⟨_, idx_0 hx11, idx_map _ hx11, ?_⟩;(conv=>whnf);refine nl ?_;(conv=>whnf);refine nl ?_
    (conv=>whnf);refine nl ?_;(conv=>whnf);refine Br.mk (fun hc4 => ?_) (fun hc4 => ?_)
    ·replace hx10 := ite_t hc4 hx10;obtain ⟨r11, hx14, hx10⟩ := obind hx10;obtain ⟨r12, hx15, hx10⟩ := obind hx10;(conv=>whnf);refine Side.mk rfl ⟨_, idx_0 hx11, idx_map _ hx11, ?_⟩;(conv=>whnf);refine Side.mk rfl ⟨_, idx_0 hx11, idx_map _ hx11, ?_⟩;(conv=>whnf);refine Both.mk ?_ trivial;(conv=>whnf);refine CallG.pure _ (ref09KnownC hN hx14) ?_;(conv=>whnf);refine nl ?_;(conv=>whnf);refine nl ?_;(conv=>whnf);refine nl ?_;(conv=>whnf);refine Side.mk rfl ⟨_, idx_0 hx11, idx_map _ hx11, ?_⟩;(conv=>whnf);refine nl ?_;(conv=>whnf);refine nl ?_;(conv=>whnf);refine nl ?_;(conv=>whnf);refine nl ?_;(conv=>whnf);refine Side.mk rfl ⟨_, idx_0 hx11, idx_map _ hx11, ?_⟩;(conv=>whnf);refine nl ?_;(conv=>whnf);refine nl ?_;(conv=>whnf);refine nl ?_;(conv=>whnf);refine nl ?_;(conv=>whnf);refine nl ?_;(conv=>whnf);refine Side.mk rfl ⟨_, idx_0 hx11, idx_map _ hx11, ?_⟩;(conv=>whnf);refine nl ?_
     (conv=>whnf);refine nl ?_;(conv=>whnf);refine nl ?_;(conv=>whnf);refine nl ?_;(conv=>whnf);refine Side.mk rfl ⟨_, idx_0 hx11, idx_map _ hx11, ?_⟩;(conv=>whnf);refine nl ?_;(conv=>whnf);refine nl ?_;(conv=>whnf);refine nl ?_;(conv=>whnf);refine Both.mk ?_ trivial;(conv=>whnf);refine CallG.pure _ (ref09ComesC hN hx15) ?_;(conv=>whnf);refine nl ?_;(conv=>whnf);refine Side.mk rfl ⟨_, idx_0 hx11, idx_map _ hx11, ?_⟩;(conv=>whnf);refine nl ?_;(conv=>whnf);refine nl ?_;(conv=>whnf);refine nl ?_;(conv=>whnf);refine nl ?_;(conv=>whnf);refine Side.mk rfl ⟨_, idx_0 hx11, idx_map _ hx11, ?_⟩;(conv=>whnf);refine nl ?_;(conv=>whnf);refine nl ?_;(conv=>whnf);refine nl ?_;(conv=>whnf);refine nl ?_;(conv=>whnf);refine nl ?_;(conv=>whnf);refine Side.mk rfl ⟨_, idx_0 hx11, idx_map _ hx11, ?_⟩;(conv=>whnf);refine nl ?_;(conv=>whnf);refine nl ?_;(conv=>whnf);refine nl ?_;(conv=>whnf);refine nl ?_
     (conv=>whnf);refine Side.mk rfl ⟨_, idx_0 hx11, idx_map _ hx11, ?_⟩;(conv=>whnf);refine nl ?_;(conv=>whnf);refine nl ?_;(conv=>whnf);refine nl ?_;cases hx10;(conv=>whnf);refine ⟨(), trivial, Sub.eq rfl ?_ ?_⟩
     ·(repeat ((conv=>whnf);refine nr ?_));exact trivial
     ·exact trivial
    ·replace hx10 := ite_f hc4 hx10;(conv=>whnf);refine Both.mk ?_ trivial;(conv=>whnf);refine nr ?_;(conv=>whnf);refine nr ?_;(conv=>whnf);refine nr ?_;(conv=>whnf);refine nr ?_;(conv=>whnf);refine nr ?_;(conv=>whnf);refine nr ?_;(conv=>whnf);refine nr ?_;(conv=>whnf);refine nr ?_;(conv=>whnf);refine nr ?_;(conv=>whnf);refine nr ?_;(conv=>whnf);refine nl ?_;(conv=>whnf);refine nl ?_;(conv=>whnf);refine Side.mk rfl ⟨_, idx_0 hx11, idx_map _ hx11, ?_⟩;(conv=>whnf);refine nl ?_;(conv=>whnf);refine nl ?_;(conv=>whnf);refine nl ?_;(conv=>whnf);refine nl ?_;(conv=>whnf);refine Side.mk rfl ⟨_, idx_0 hx11, idx_map _ hx11, ?_⟩;(conv=>whnf);refine nl ?_;(conv=>whnf);refine nl ?_;(conv=>whnf);refine nl ?_;(conv=>whnf);refine Both.mk ?_ trivial;(conv=>whnf);refine nr ?_;(conv=>whnf);refine nr ?_;(conv=>whnf);refine nr ?_;(conv=>whnf);refine nr ?_;(conv=>whnf);refine nr ?_;(conv=>whnf);refine nr ?_
     (conv=>whnf);refine nr ?_;(conv=>whnf);refine nr ?_;(conv=>whnf);refine nl ?_;(conv=>whnf);refine nl ?_;(conv=>whnf);refine Side.mk rfl ⟨_, idx_0 hx11, idx_map _ hx11, ?_⟩;(conv=>whnf);refine nl ?_;(conv=>whnf);refine nl ?_;(conv=>whnf);refine nl ?_;(conv=>whnf);refine nl ?_;(conv=>whnf);refine Side.mk rfl ⟨_, idx_0 hx11, idx_map _ hx11, ?_⟩;(conv=>whnf);refine nl ?_;(conv=>whnf);refine nl ?_;(conv=>whnf);refine nl ?_;cases hx10;(conv=>whnf);refine ⟨(), trivial, Sub.eq rfl ?_ ?_⟩
     ·(repeat ((conv=>whnf);refine nr ?_));exact trivial
     ·exact trivial
   ·rintro _ _;(conv=>whnf);cases h;exact rfl

theorem ref09SettledC {N : Nat} (hN : N ≤ 1073741824) {c1 : Ref09Cup} {tree1 : List Ref09Pair} {match1 : Int} {winners1 : List Int} {r : Int} (h : ref09Settled N c1 tree1 match1 winners1 = some r) :
    ACalls Try.prog 69 [.d (.agg [.int .u8 c1.fForm, I c1.fPlayers, I c1.fGames, .list 3 (List.map Ref09Result.enc c1.fResults)]), .d (.list 4 (List.map Ref09Pair.enc tree1)), .d (I match1), .d (.list 1 (List.map I winners1))] [] fun e os => e = .ret (.d (I r)) ∧ os = [] := by
  refine acalls_f (fresh := false) tt_ok dr_ok ⟨[4], [], [], [], [2], 0, []⟩ Try.func69 rfl Try.call69 rfl ?_
  unfold ref09Settled at h
  obtain ⟨r2, hx2, h⟩ := obind h;(conv=>whnf);refine CallG.pure _ (ref09FindC hN hx2) ?_;obtain ⟨v2, hx10, h⟩ := obind h;(conv=>whnf);refine SeqG.mk Unit (fun y => [(2, .d (I match1)), (4, .d (.ref (.agg [.int .u8 c1.fForm, I c1.fPlayers, I c1.fGames, .list 3 (List.map Ref09Result.enc c1.fResults)]))), (30, .d (.bool v2))]) (fun y => []) (fun _ => True) ?_ ?_
  ·(conv=>whnf);refine Br.mk (fun hc8 => ?_) (fun hc8 => ?_)
   ·replace hx10 := ite_f hc8 hx10;obtain ⟨x4, hx11, hx10⟩ := obind hx10;(conv=>whnf);refine Side.mk rfl ⟨_, idx_0 hx11, idx_map _ hx11, ?_⟩;(conv=>whnf);refine Br.mk (fun hc9 => ?_) (fun hc9 => ?_)
    ·replace hx10 := ite_f hc9 hx10;obtain ⟨r6, hx12, hx10⟩ := obind hx10;(conv=>whnf);refine CallG.pure _ (ref09HoldsC hN hx12) ?_;cases hx10;(conv=>whnf);refine ⟨(), trivial, Sub.eq rfl ?_ ?_⟩
     ·(repeat ((conv=>whnf);refine nr ?_));exact trivial
     ·exact trivial
    ·replace hx10 := ite_t hc9 hx10;cases hx10;(conv=>whnf);refine ⟨(), trivial, Sub.eq rfl ?_ ?_⟩
     ·(repeat ((conv=>whnf);refine nr ?_));exact trivial
     ·exact trivial
   ·replace hx10 := ite_t hc8 hx10;cases hx10;(conv=>whnf);refine ⟨(), trivial, Sub.eq rfl ?_ ?_⟩
    ·(repeat ((conv=>whnf);refine nr ?_));exact trivial
    ·exact trivial
  ·rintro _ _;(conv=>whnf);refine Br.mk (fun hc10 => ?_) (fun hc10 => ?_)
   ·replace h := ite_t hc10 h;(conv=>whnf);cases h;exact rfl
   ·replace h := ite_f hc10 h;obtain ⟨r8, hx14, h⟩ := obind h;(conv=>whnf);refine CallG.pure _ (ref09WonC hN hx14) ?_;(conv=>whnf);cases h;exact rfl
end Go.Proofs.Ytbceakhnnnfiaaa
