/-
  The walk of the law LadderUpsets.
-/
import Derived.Test.YtbceakhnnnfiaaaDLadderUpsets
import Derived.Test.YtbceakhnnnfiaaaWe
import Derived.Test.YtbceakhnnnfiaaaVc
import Derived.Test.YtbceakhnnnfiaaaVd
import Derived.Test.YtbceakhnnnfiaaaVf
import Derived.Test.YtbceakhnnnfiaaaVi
import Derived.Test.YtbceakhnnnfiaaaVj
import Derived.Test.YtbceakhnnnfiaaaVk
import Derived.Test.YtbceakhnnnfiaaaVm
import Derived.Test.YtbceakhnnnfiaaaVr
import Derived.Test.YtbceakhnnnfiaaaVt
namespace Go.Proofs.Ytbceakhnnnfiaaa
open Go Go.Abs Go.Kp
set_option maxRecDepth 100000
set_option maxHeartbeats 8000000
set_option linter.all false

theorem law09LadderUpsetsC {N : Nat} (hN : N ≤ 1073741824) {c1 : Ref09Cup} {player1 : Int} {Q : Bool → Prop} (h : law09LadderUpsets N c1 player1 Q) :
    ACalls Try.prog 15 [.d (.agg [.int .u8 c1.fForm, I c1.fPlayers, I c1.fGames, .list 3 (List.map Ref09Result.enc c1.fResults)]), .d (I player1)] [] (fun ae os => ∃ r : Bool, Q r ∧ (fun e os => e = .ret (.d (.bool r)) ∧ os = []) ae os) := by
  refine acalls_pred (fresh := false) tt_ok dr_ok ⟨[2], [], [], [], [6, 14, 15, 1006, 1009], 0, []⟩ Try.func15 rfl Try.call15 rfl ?_
  unfold law09LadderUpsets at h
  obtain ⟨r6, hx6, h⟩ := bindO_el h;(conv=>whnf);refine CallG.pure _ (law09FewC hN hx6) ?_;(conv=>whnf);refine Br.mk (fun hc2 => ?_) (fun hc2 => ?_)
  ·replace h := ite_tW hc2 h;obtain ⟨r8, hx8, h⟩ := bindO_el h;(conv=>whnf);refine CallG.pure _ (law09WakesC hN hx8) ?_;(conv=>whnf);have hv : Q _ := h;exact ⟨[], ⟨_, hv, rfl, rfl⟩, fun _ hq => nomatch hq⟩
  ·replace h := ite_fW hc2 h;obtain ⟨r10, hx11, h⟩ := bindO_el h;(conv=>whnf);refine CallG.pure _ (law09CupC hN hx11) ?_;obtain ⟨⟨ra2, rb2⟩, hx12, h⟩ := bindO_el h;(conv=>whnf);refine CallG.pure _ (ladderUpsetsC hN hx12) ?_;obtain ⟨r12, hx14, h⟩ := bindO_el h;(conv=>whnf);refine CallG.pure _ (law09CupC hN hx14) ?_;(conv=>whnf);refine CallG.ex (fun x : (List Int) × Int => .d (.tup [.list 1 (List.map I x.1), I x.2])) _ (ladderWayC hN h) ?_;clear h;rintro ⟨ra4, rb4⟩ h;obtain ⟨r14, hx16, h⟩ := bindO_el h;(conv=>whnf);refine CallG.pure _ (law09FaultC hN hx16) ?_;(conv=>whnf)
   refine SeqG.mk Int (fun y => [(1, .d (I player1)), (2, .d (.ref (.agg [.int .u8 c1.fForm, I c1.fPlayers, I c1.fGames, .list 3 (List.map Ref09Result.enc c1.fResults)]))), (5, .d (I ra2)), (6, .d (I rb2)), (7, .d (.list 1 (List.map I ra4))), (8, .d (I rb4)), (9, .d (I y))]) (fun y => []) (fun y => law09LadderUpsets_k4 N c1 player1 ra2 rb2 ra4 rb4 y Q) ?_ ?_
   ·(conv=>whnf);refine SeqG.mk Bool (fun y => [(1, .d (I player1)), (2, .d (.ref (.agg [.int .u8 c1.fForm, I c1.fPlayers, I c1.fGames, .list 3 (List.map Ref09Result.enc c1.fResults)]))), (5, .d (I ra2)), (6, .d (I rb2)), (7, .d (.list 1 (List.map I ra4))), (8, .d (I rb4)), (9, .d (I r14)), (40, .d (.bool y))]) (fun y => []) (fun y => law09LadderUpsets_k5 N c1 player1 ra2 rb2 ra4 rb4 r14 y Q) ?_ ?_
    ·(conv=>whnf);refine Br.mk (fun hc42 => ?_) (fun hc42 => ?_)
     ·replace h := ite_tW hc42 h;obtain ⟨r32, hx40, h⟩ := bindO_el h;(conv=>whnf);refine CallG.pure _ (ref09InC hN hx40) ?_;(conv=>whnf);refine ⟨!r32, h, Sub.eq rfl ?_ ?_⟩
      ·(repeat ((conv=>whnf);refine nr ?_));exact trivial
      ·exact trivial
     ·replace h := ite_fW hc42 h;(conv=>whnf);refine ⟨false, h, Sub.eq rfl ?_ ?_⟩
      ·(repeat ((conv=>whnf);refine nr ?_));exact trivial
      ·exact trivial
    ·clear h;rintro v5 h;unfold law09LadderUpsets_k5 at h;(conv=>whnf);refine Br.mk (fun hc41 => ?_) (fun hc41 => ?_)
     ·replace h := ite_tW hc41 h;(conv=>whnf);refine ⟨2, h, Sub.eq rfl ?_ ?_⟩
      ·(repeat ((conv=>whnf);refine nr ?_));exact trivial
      ·exact trivial
     ·replace h := ite_fW hc41 h;(conv=>whnf);refine ⟨r14, h, Sub.eq rfl ?_ ?_⟩
      ·(repeat ((conv=>whnf);refine nr ?_));exact trivial
      ·exact trivial
   ·clear h;rintro want1 h;unfold law09LadderUpsets_k4 at h;(conv=>whnf);refine SeqG.mk (Int × Int) (fun y => [(1, .d (I player1)), (2, .d (.ref (.agg [.int .u8 c1.fForm, I c1.fPlayers, I c1.fGames, .list 3 (List.map Ref09Result.enc c1.fResults)]))), (5, .d (I ra2)), (6, .d (I rb2)), (7, .d (.list 1 (List.map I ra4))), (8, .d (I rb4)), (9, .d (I y.1)), (10, .d (I y.2))]) (fun y => []) (fun y => law09LadderUpsets_k3 N c1 player1 ra2 rb2 ra4 rb4 y.1 y.2 Q) ?_ ?_
    ·(conv=>whnf);refine Br.mk (fun hc38 => ?_) (fun hc38 => ?_)
     ·replace h := ite_tW hc38 h;obtain ⟨r30, hx37, h⟩ := bindO_el h;(conv=>whnf);refine CallG.pure _ (ref09LeastC hN hx37) ?_;obtain ⟨x6, hx38, h⟩ := bindO_el h;(conv=>whnf);refine Side.mk rfl ⟨_, idx_0 hx38, idx_map _ hx38, ?_⟩;(conv=>whnf);refine Br.mk (fun hc39 => ?_) (fun hc39 => ?_)
      ·replace h := ite_tW hc39 h;(conv=>whnf);refine ⟨(9, 0), h, Sub.eq rfl ?_ ?_⟩
       ·(repeat ((conv=>whnf);refine nr ?_));exact trivial
       ·exact trivial
      ·replace h := ite_fW hc39 h;(conv=>whnf);refine ⟨(want1, x6), h, Sub.eq rfl ?_ ?_⟩
       ·(repeat ((conv=>whnf);refine nr ?_));exact trivial
       ·exact trivial
     ·replace h := ite_fW hc38 h;(conv=>whnf);refine ⟨(want1, 0), h, Sub.eq rfl ?_ ?_⟩
      ·(repeat ((conv=>whnf);refine nr ?_));exact trivial
      ·exact trivial
    ·clear h;rintro ⟨want2, due1⟩ h;unfold law09LadderUpsets_k3 at h;(conv=>whnf);refine Br.mk (fun hc17 => ?_) (fun hc17 => ?_)
     ·replace h := ite_tW hc17 h;(conv=>whnf);refine SeqG.mk Bool (fun y => [(4, .d (.bool y))]) (fun y => []) (fun y => law09LadderUpsets_k1 N y Q) ?_ ?_
      ·(conv=>whnf);refine Br.mk (fun hc22 => ?_) (fun hc22 => ?_)
       ·replace h := ite_tW hc22 h;(conv=>whnf);refine Br.mk (fun hc23 => ?_) (fun hc23 => ?_)
        ·replace h := ite_tW hc23 h;(conv=>whnf);refine Br.mk (fun hc24 => ?_) (fun hc24 => ?_)
         ·replace h := ite_tW hc24 h;(conv=>whnf);refine LnA.mk _ (List.length_map _) ?_;(conv=>whnf);refine Br.mk (fun hc25 => ?_) (fun hc25 => ?_)
          ·replace h := ite_tW hc25 h;obtain ⟨r22, hx26, h⟩ := bindO_el h;(conv=>whnf);refine CallG.pure _ (law09WakesC hN hx26) ?_;(conv=>whnf);refine ⟨r22, h, Sub.eq rfl ?_ ?_⟩
           ·(repeat ((conv=>whnf);refine nr ?_));exact trivial
           ·exact trivial
          ·replace h := ite_fW hc25 h;(conv=>whnf);refine ⟨false, h, Sub.eq rfl ?_ ?_⟩
           ·(repeat ((conv=>whnf);refine nr ?_));exact trivial
           ·exact trivial
         ·replace h := ite_fW hc24 h;(conv=>whnf);refine ⟨false, h, Sub.eq rfl ?_ ?_⟩
          ·(repeat ((conv=>whnf);refine nr ?_));exact trivial
          ·exact trivial
        ·replace h := ite_fW hc23 h;(conv=>whnf);refine ⟨false, h, Sub.eq rfl ?_ ?_⟩
         ·(repeat ((conv=>whnf);refine nr ?_));exact trivial
         ·exact trivial
       ·replace h := ite_fW hc22 h;(conv=>whnf);refine ⟨false, h, Sub.eq rfl ?_ ?_⟩
        ·(repeat ((conv=>whnf);refine nr ?_));exact trivial
        ·exact trivial
      ·clear h;rintro v3 h;unfold law09LadderUpsets_k1 at h;(conv=>whnf);have hv : Q _ := h;exact ⟨[], ⟨_, hv, rfl, rfl⟩, fun _ hq => nomatch hq⟩
     ·replace h := ite_fW hc17 h;(conv=>whnf);refine SeqG.mk Bool (fun y => [(4, .d (.bool y))]) (fun y => []) (fun y => law09LadderUpsets_k2 N y Q) ?_ ?_
      ·(conv=>whnf);refine Br.mk (fun hc32 => ?_) (fun hc32 => ?_)
       ·replace h := ite_tW hc32 h;(conv=>whnf);refine Br.mk (fun hc33 => ?_) (fun hc33 => ?_)
        ·replace h := ite_tW hc33 h;(conv=>whnf);refine Br.mk (fun hc34 => ?_) (fun hc34 => ?_)
         ·replace h := ite_tW hc34 h;obtain ⟨r26, hx31, h⟩ := bindO_el h;(conv=>whnf);refine CallG.pure _ (ref09IsCourseC hN hx31) ?_;(conv=>whnf);refine Br.mk (fun hc35 => ?_) (fun hc35 => ?_)
          ·replace h := ite_tW hc35 h;(conv=>whnf);refine LnA.mk _ (List.length_map _) ?_;obtain ⟨x4, hx32, h⟩ := bindO_el h;(conv=>whnf);refine Side.mk rfl ⟨_, idx_0 hx32, idx_map _ hx32, ?_⟩;(conv=>whnf);refine Br.mk (fun hc36 => ?_) (fun hc36 => ?_)
           ·replace h := ite_tW hc36 h;obtain ⟨r27, hx33, h⟩ := bindO_el h;(conv=>whnf);refine CallG.pure _ (ref09UpsetsC hN hx33) ?_;(conv=>whnf);refine Br.mk (fun hc37 => ?_) (fun hc37 => ?_)
            ·replace h := ite_tW hc37 h;obtain ⟨r28, hx34, h⟩ := bindO_el h;(conv=>whnf);refine CallG.pure _ (law09WakesC hN hx34) ?_;(conv=>whnf);refine ⟨r28, h, Sub.eq rfl ?_ ?_⟩
             ·(repeat ((conv=>whnf);refine nr ?_));exact trivial
             ·exact trivial
            ·replace h := ite_fW hc37 h;(conv=>whnf);refine ⟨false, h, Sub.eq rfl ?_ ?_⟩
             ·(repeat ((conv=>whnf);refine nr ?_));exact trivial
             ·exact trivial
           ·replace h := ite_fW hc36 h;(conv=>whnf);refine ⟨false, h, Sub.eq rfl ?_ ?_⟩
            ·(repeat ((conv=>whnf);refine nr ?_));exact trivial
            ·exact trivial
          ·replace h := ite_fW hc35 h;(conv=>whnf);refine ⟨false, h, Sub.eq rfl ?_ ?_⟩
           ·(repeat ((conv=>whnf);refine nr ?_));exact trivial
           ·exact trivial
         ·replace h := ite_fW hc34 h;(conv=>whnf);refine ⟨false, h, Sub.eq rfl ?_ ?_⟩
          ·(repeat ((conv=>whnf);refine nr ?_));exact trivial
          ·exact trivial
        ·replace h := ite_fW hc33 h;(conv=>whnf);refine ⟨false, h, Sub.eq rfl ?_ ?_⟩
         ·(repeat ((conv=>whnf);refine nr ?_));exact trivial
         ·exact trivial
       ·replace h := ite_fW hc32 h;(conv=>whnf);refine ⟨false, h, Sub.eq rfl ?_ ?_⟩
        ·(repeat ((conv=>whnf);refine nr ?_));exact trivial
        ·exact trivial
      ·clear h;rintro v4 h;unfold law09LadderUpsets_k2 at h;(conv=>whnf);have hv : Q _ := h;exact ⟨[], ⟨_, hv, rfl, rfl⟩, fun _ hq => nomatch hq⟩
end Go.Proofs.Ytbceakhnnnfiaaa
