/-
  The walk of the law LadderProves.
-/
import Derived.Test.YtbceakhnnnfiaaaDLadderProves
import Derived.Test.YtbceakhnnnfiaaaWe
import Derived.Test.YtbceakhnnnfiaaaVc
import Derived.Test.YtbceakhnnnfiaaaVd
import Derived.Test.YtbceakhnnnfiaaaVe
import Derived.Test.YtbceakhnnnfiaaaVf
import Derived.Test.YtbceakhnnnfiaaaVj
import Derived.Test.YtbceakhnnnfiaaaVq
import Derived.Test.YtbceakhnnnfiaaaVt
namespace Go.Proofs.Ytbceakhnnnfiaaa
open Go Go.Abs Go.Kp
set_option maxRecDepth 100000
set_option maxHeartbeats 8000000
set_option linter.all false

theorem law09LadderProvesC {N : Nat} (hN : N ≤ 1073741824) {c1 : Ref09Cup} {winners1 : List Int} {upsets1 : Int} {r : Bool} (h : law09LadderProves N c1 winners1 upsets1 = some r) :
    ACalls Try.prog 13 [.d (.agg [.int .u8 c1.fForm, I c1.fPlayers, I c1.fGames, .list 3 (List.map Ref09Result.enc c1.fResults)]), .d (.list 1 (List.map I winners1)), .d (I upsets1)] [] fun e os => e = .ret (.d (.bool r)) ∧ os = [] := by
  refine acalls_f (fresh := false) tt_ok dr_ok ⟨[3], [], [], [], [1, 3, 4], 0, []⟩ Try.func13 rfl Try.call13 rfl ?_
  unfold law09LadderProves at h
  obtain ⟨v2, hx7, h⟩ := obind h;(conv=>whnf);refine SeqG.mk Unit (fun y => [(1, .d (.list 1 (List.map I winners1))), (2, .d (I upsets1)), (3, .d (.ref (.agg [.int .u8 c1.fForm, I c1.fPlayers, I c1.fGames, .list 3 (List.map Ref09Result.enc c1.fResults)]))), (15, .d (.bool v2))]) (fun y => []) (fun _ => True) ?_ ?_
  ·obtain ⟨r6, hx8, hx7⟩ := obind hx7;(conv=>whnf);refine CallG.pure _ (law09ThinC hN hx8) ?_;(conv=>whnf);refine Br.mk (fun hc5 => ?_) (fun hc5 => ?_)
   ·replace hx7 := ite_f hc5 hx7;(conv=>whnf);refine LnA.mk _ (List.length_map _) ?_;cases hx7;(conv=>whnf);refine ⟨(), trivial, Sub.eq rfl ?_ ?_⟩
    ·(repeat ((conv=>whnf);refine nr ?_));exact trivial
    ·exact trivial
   ·replace hx7 := ite_t hc5 hx7;cases hx7;(conv=>whnf);refine ⟨(), trivial, Sub.eq rfl ?_ ?_⟩
    ·(repeat ((conv=>whnf);refine nr ?_));exact trivial
    ·exact trivial
  ·rintro _ _;(conv=>whnf);refine Br.mk (fun hc6 => ?_) (fun hc6 => ?_)
   ·replace h := ite_t hc6 h;obtain ⟨r8, hx10, h⟩ := obind h;(conv=>whnf);refine CallG.pure _ (law09WakesC hN hx10) ?_;(conv=>whnf);cases h;exact rfl
   ·replace h := ite_f hc6 h;obtain ⟨want1, hx14, h⟩ := obind h;(conv=>whnf);refine SeqG.mk Unit (fun y => [(1, .d (.list 1 (List.map I winners1))), (2, .d (I upsets1)), (3, .d (.ref (.agg [.int .u8 c1.fForm, I c1.fPlayers, I c1.fGames, .list 3 (List.map Ref09Result.enc c1.fResults)]))), (7, .d (.bool want1))]) (fun y => []) (fun _ => True) ?_ ?_
    ·obtain ⟨r12, hx15, hx14⟩ := obind hx14;(conv=>whnf);refine CallG.pure _ (ref09FaultC hN hx15) ?_;(conv=>whnf);refine Br.mk (fun hc9 => ?_) (fun hc9 => ?_)
     ·replace hx14 := ite_t hc9 hx14;obtain ⟨r13, hx16, hx14⟩ := obind hx14;(conv=>whnf);refine CallG.pure _ (ref09IsCourseC hN hx16) ?_;(conv=>whnf);refine Br.mk (fun hc10 => ?_) (fun hc10 => ?_)
      ·replace hx14 := ite_t hc10 hx14;obtain ⟨r14, hx17, hx14⟩ := obind hx14;(conv=>whnf);refine CallG.pure _ (ref09UpsetsC hN hx17) ?_;cases hx14;(conv=>whnf);refine ⟨(), trivial, Sub.eq rfl ?_ ?_⟩
       ·(repeat ((conv=>whnf);refine nr ?_));exact trivial
       ·exact trivial
      ·replace hx14 := ite_f hc10 hx14;cases hx14;(conv=>whnf);refine ⟨(), trivial, Sub.eq rfl ?_ ?_⟩
       ·(repeat ((conv=>whnf);refine nr ?_));exact trivial
       ·exact trivial
     ·replace hx14 := ite_f hc9 hx14;cases hx14;(conv=>whnf);refine ⟨(), trivial, Sub.eq rfl ?_ ?_⟩
      ·(repeat ((conv=>whnf);refine nr ?_));exact trivial
      ·exact trivial
    ·rintro _ _;obtain ⟨v3, hx22, h⟩ := obind h;(conv=>whnf);refine SeqG.mk Unit (fun y => [(6, .d (.bool v3))]) (fun y => []) (fun _ => True) ?_ ?_
     ·obtain ⟨r19, hx23, hx22⟩ := obind hx22;(conv=>whnf);refine CallG.pure _ (law09CupC hN hx23) ?_;obtain ⟨r20, hx24, hx22⟩ := obind hx22;(conv=>whnf);refine CallG.fresh 35 (law09ListC hN hx24) ?_;intro hd2;obtain ⟨r21, hx25, hx22⟩ := obind hx22;(conv=>whnf);refine sr ?_;(conv=>whnf);refine CallG.pure _ (ladderProveWayC hN hx25) ?_;(conv=>whnf);refine Br.mk (fun hc12 => ?_) (fun hc12 => ?_)
      ·replace hx22 := ite_t hc12 hx22;obtain ⟨r22, hx26, hx22⟩ := obind hx22;(conv=>whnf);refine CallG.pure _ (law09WakesC hN hx26) ?_;cases hx22;(conv=>whnf);refine ⟨(), trivial, Sub.eq rfl ?_ ?_⟩
       ·(repeat ((conv=>whnf);refine nr ?_));exact trivial
       ·exact trivial
      ·replace hx22 := ite_f hc12 hx22;cases hx22;(conv=>whnf);refine ⟨(), trivial, Sub.eq rfl ?_ ?_⟩
       ·(repeat ((conv=>whnf);refine nr ?_));exact trivial
       ·exact trivial
     ·rintro _ _;(conv=>whnf);cases h;exact rfl
end Go.Proofs.Ytbceakhnnnfiaaa
