/-
  Walks: what the typed functions compute, the program’s functions return.
-/
import Derived.Test.YtbceakhnnnfiaaaWe
import Derived.Test.YtbceakhnnnfiaaaVd
namespace Go.Proofs.Ytbceakhnnnfiaaa
open Go Go.Abs Go.Kp
set_option maxRecDepth 100000
set_option maxHeartbeats 8000000
set_option linter.all false

theorem law09CupC {N : Nat} (hN : N ≤ 1073741824) {c1 : Ref09Cup} {r : LadderCup} (h : law09Cup N c1 = some r) :
    ACalls Try.prog 21 [.d (.agg [.int .u8 c1.fForm, I c1.fPlayers, I c1.fGames, .list 3 (List.map Ref09Result.enc c1.fResults)])] [] fun e os => e = .ret (.d (.agg [.int .u8 r.fForm, I r.fPlayers, I r.fGames, .list 3 (List.map LadderResult.enc r.fResults)])) ∧ os = [] := by
  refine acalls_f (fresh := false) tt_ok dr_ok ⟨[1], [], [], [], [1002], 0, []⟩ Try.func21 rfl Try.call21 rfl ?_
  unfold law09Cup at h
  (conv=>whnf);intro b2;(conv=>whnf);intro b4;(conv=>whnf);refine sr ?_;obtain ⟨l11, hx25, h⟩ := obind h;(conv=>whnf);refine SeqG.mk Value (fun y => [(2, .ptr 2 b2 0), (3, .ptr 3 b4 0)]) (fun y => [(2, .cells b2 [.d (.int .u8 0), .d (I 0), .d (I 0), .nils 3]), (3, .cells b4 [.d (.int .u8 c1.fForm), .d (I c1.fPlayers), .d (I c1.fGames), .sl 36 y]), (36, .arr y 86 3 false (List.map LadderResult.enc l11))]) (fun _ => True) ?_ ?_
  ·(conv=>whnf);refine LoopG.mk (Nat × (Int × (List LadderResult)) × Value) (fun y => [(1, .d (.ref (.agg [.int .u8 c1.fForm, I c1.fPlayers, I c1.fGames, .list 3 (List.map Ref09Result.enc c1.fResults)]))), (2, .ptr 2 b2 0), (3, .ptr 3 b4 0), (4, .d (I y.2.1.1))]) (fun y => [(2, .cells b2 [.d (.int .u8 0), .d (I 0), .d (I 0), .nils 3]), (3, .cells b4 [.d (.int .u8 c1.fForm), .d (I c1.fPlayers), .d (I c1.fGames), .sl 36 y.2.2]), (36, .arr y.2.2 86 3 false (List.map LadderResult.enc y.2.1.2))]) (fun y => loopN (fun rr x => law09Cup_b1 N c1 rr x.1 x.2) y.1 y.2.1 = some l11) (fun y => y.1) (N, (0, []), (.slice none 0 0)) hx25 (Sub.eq rfl ?_ ?_) ?_
   ·(repeat ((conv=>whnf);refine nr ?_));exact trivial
   ·(conv=>whnf);refine no ?_;(conv=>whnf);refine Need.mk (OLe.cells _ _ _ (by repeat (first | exact trivial | ((conv => whnf); refine Need.mk rfl ?_)))) ?_;(conv=>whnf);refine Need.mk (OLe.nil _ _ _ _) ?_;exact trivial
   ·rintro ⟨n2, ⟨i8, l19⟩, hd69⟩ hl2;obtain ⟨n2, rfl, hl2⟩ := loopN_some hl2;replace hl2 : law09Cup_b1 N c1 (loopN (fun rr x => law09Cup_b1 N c1 rr x.1 x.2) n2) i8 l19 = some l11 := hl2;rw [law09Cup_b1] at hl2;(conv=>whnf);refine LnA.mk _ (List.length_map _) ?_;(conv=>whnf);refine Br.mk (fun hc12 => ?_) (fun hc12 => ?_)
    ·replace hl2 := ite_t hc12 hl2;obtain ⟨x24, hx47, hl2⟩ := obind hl2;(conv=>whnf);refine Side.mk rfl ⟨_, idx_0 hx47, idx_map _ hx47, ?_⟩;(conv=>whnf);intro b28;(conv=>whnf);refine sr ?_;obtain ⟨r12, hx48, hl2⟩ := obind hl2;obtain ⟨l21, hx49, hl2⟩ := obind hl2;(conv=>whnf);refine DrawG.mk (.take 0 (.take 1 (.take 2 (.take 3 (.take 4 (.take 5 (.take 7 (.take 8 (.alt 6 [8, 7, 4, 3, 2, 1, 0] (.alt 9 [7, 4, 2, 1, 0] (.alt 10 [7, 4, 2, 1, 0] (.alt 11 [7, 4, 2, 0] (.take 12 (.alt 13 [] .done .nil)) .nil) .nil) .nil) .nil))))))))) (by kernel_rfl) ?_;(conv=>whnf);refine sr ?_;(conv=>whnf);refine sr ?_;(conv=>whnf);refine sr ?_;(conv=>whnf);refine sr ?_;(conv=>whnf);refine Both.mk ?_ trivial;(conv=>whnf);refine CallG.fresh 31 (law09ListC hN hx48) ?_;intro hd79;(conv=>whnf);refine sr ?_;(conv=>whnf);refine nl ?_;(conv=>whnf);refine nl ?_;(conv=>whnf);refine nl ?_;(conv=>whnf);refine sr ?_
     (conv=>whnf);refine nl ?_;(conv=>whnf);refine nl ?_;(conv=>whnf);refine sr ?_;(conv=>whnf);refine nl ?_;(conv=>whnf);refine nl ?_;(conv=>whnf);refine Both.mk ?_ trivial;(conv=>whnf);refine sr ?_;(conv=>whnf);refine nl ?_;(conv=>whnf);refine nl ?_;(conv=>whnf);refine nl ?_;(conv=>whnf);refine sr ?_;(conv=>whnf);refine nl ?_;(conv=>whnf);refine nl ?_;(conv=>whnf);refine Both.mk ?_ trivial;(conv=>whnf);intro hd80;(conv=>whnf);refine nl ?_;(conv=>whnf);refine nl ?_;(conv=>whnf);refine nl ?_;(conv=>whnf);refine sr ?_;(conv=>whnf);refine nl ?_;(conv=>whnf);refine nl ?_;(conv=>whnf);refine Both.mk ?_ trivial;(conv=>whnf);refine Side.mk ⟨rfl, rfl⟩ ?_;(conv=>whnf);refine Side.mk ⟨rfl, rfl, rfl⟩ (Need.mk (app_need hN hx49 (by decide)) (Eqv.mk (List.map LadderResult.enc l21) (app_map _ hx49) ?_));(conv=>whnf);intro hd81;(conv=>whnf);refine nl ?_;(conv=>whnf);refine nl ?_;(conv=>whnf)
     refine nl ?_;(conv=>whnf);refine nl ?_;(conv=>whnf);refine Both.mk ?_ trivial;(conv=>whnf);refine sr ?_;(conv=>whnf);refine ⟨(n2, (w64 (i8 + 1), l21), hd81), hl2, Sub.eq rfl ?_ ?_, Nat.lt_succ_self _⟩
     ·(repeat ((conv=>whnf);refine nr ?_));exact trivial
     ·(conv=>whnf);refine no ?_;(conv=>whnf);refine no ?_;(conv=>whnf);refine no ?_;exact trivial
    ·replace hl2 := ite_f hc12 hl2;cases hl2;(conv=>whnf);refine ⟨hd69, trivial, Sub.eq rfl ?_ ?_⟩
     ·(repeat ((conv=>whnf);refine nr ?_));exact trivial
     ·(conv=>whnf);refine no ?_;(conv=>whnf);refine no ?_;(conv=>whnf);refine no ?_;exact trivial
  ·rintro hd41 _;(conv=>whnf);refine sr ?_;(conv=>whnf);refine sr ?_;(conv=>whnf);refine sr ?_;(conv=>whnf);refine sr ?_;(conv=>whnf);cases h;exact rfl
end Go.Proofs.Ytbceakhnnnfiaaa
