/-
  The walk of the law LadderHangs.
-/
import Derived.Test.YtbceakhnnnfiaaaDLadderHangs
import Derived.Test.YtbceakhnnnfiaaaWe
import Derived.Test.YtbceakhnnnfiaaaVc
import Derived.Test.YtbceakhnnnfiaaaVf
import Derived.Test.YtbceakhnnnfiaaaVi
import Derived.Test.YtbceakhnnnfiaaaVk
import Derived.Test.YtbceakhnnnfiaaaVu
namespace Go.Proofs.Ytbceakhnnnfiaaa
open Go Go.Abs Go.Kp
set_option maxRecDepth 100000
set_option maxHeartbeats 8000000
set_option linter.all false

theorem law09LadderHangsC {N : Nat} (hN : N ≤ 1073741824) {c1 : Ref09Cup} {r : Bool} (h : law09LadderHangs N c1 = some r) :
    ACalls Try.prog 4 [.d (.agg [.int .u8 c1.fForm, I c1.fPlayers, I c1.fGames, .list 3 (List.map Ref09Result.enc c1.fResults)])] [] fun e os => e = .ret (.d (.bool r)) ∧ os = [] := by
  refine acalls_f (fresh := false) tt_ok dr_ok ⟨[1], [], [], [], [6, 7], 0, []⟩ Try.func4 rfl Try.call4 rfl ?_
  unfold law09LadderHangs at h
  obtain ⟨r6, hx6, h⟩ := obind h;(conv=>whnf);refine CallG.pure _ (law09FewC hN hx6) ?_;(conv=>whnf);refine Br.mk (fun hc2 => ?_) (fun hc2 => ?_)
  ·replace h := ite_t hc2 h;obtain ⟨r8, hx8, h⟩ := obind h;(conv=>whnf);refine CallG.pure _ (law09WakesC hN hx8) ?_;(conv=>whnf);cases h;exact rfl
  ·replace h := ite_f hc2 h;obtain ⟨r10, hx11, h⟩ := obind h;(conv=>whnf);refine CallG.pure _ (law09CupC hN hx11) ?_;obtain ⟨⟨ra2, rb2⟩, hx12, h⟩ := obind h;(conv=>whnf);refine CallG.pure _ (ladderHangsC hN hx12) ?_;obtain ⟨r16, hx19, h⟩ := obind h;(conv=>whnf);refine CallG.pure _ (law09FaultC hN hx19) ?_;(conv=>whnf);refine Br.mk (fun hc8 => ?_) (fun hc8 => ?_)
   ·replace h := ite_t hc8 h;obtain ⟨v2, hx21, h⟩ := obind h;(conv=>whnf);refine SeqG.mk Unit (fun y => [(2, .d (.bool v2))]) (fun y => []) (fun _ => True) ?_ ?_
    ·(conv=>whnf);refine Br.mk (fun hc11 => ?_) (fun hc11 => ?_)
     ·replace hx21 := ite_t hc11 hx21;(conv=>whnf);refine LnA.mk _ (List.length_map _) ?_;(conv=>whnf);refine Br.mk (fun hc12 => ?_) (fun hc12 => ?_)
      ·replace hx21 := ite_t hc12 hx21;obtain ⟨r18, hx22, hx21⟩ := obind hx21;(conv=>whnf);refine CallG.pure _ (law09WakesC hN hx22) ?_;cases hx21;(conv=>whnf);refine ⟨(), trivial, Sub.eq rfl ?_ ?_⟩
       ·(repeat ((conv=>whnf);refine nr ?_));exact trivial
       ·exact trivial
      ·replace hx21 := ite_f hc12 hx21;cases hx21;(conv=>whnf);refine ⟨(), trivial, Sub.eq rfl ?_ ?_⟩
       ·(repeat ((conv=>whnf);refine nr ?_));exact trivial
       ·exact trivial
     ·replace hx21 := ite_f hc11 hx21;cases hx21;(conv=>whnf);refine ⟨(), trivial, Sub.eq rfl ?_ ?_⟩
      ·(repeat ((conv=>whnf);refine nr ?_));exact trivial
      ·exact trivial
    ·rintro _ _;(conv=>whnf);cases h;exact rfl
   ·replace h := ite_f hc8 h;obtain ⟨v3, hx26, h⟩ := obind h;(conv=>whnf);refine SeqG.mk Unit (fun y => [(2, .d (.bool v3))]) (fun y => []) (fun _ => True) ?_ ?_
    ·(conv=>whnf);refine Br.mk (fun hc15 => ?_) (fun hc15 => ?_)
     ·replace hx26 := ite_t hc15 hx26;obtain ⟨r22, hx27, hx26⟩ := obind hx26;(conv=>whnf);refine CallG.pure _ (ref09HangsC hN hx27) ?_;obtain ⟨r23, hx28, hx26⟩ := obind hx26;(conv=>whnf);refine CallG.pure _ (law09IntsC hN hx28) ?_;(conv=>whnf);refine Br.mk (fun hc16 => ?_) (fun hc16 => ?_)
      ·replace hx26 := ite_t hc16 hx26;obtain ⟨r24, hx29, hx26⟩ := obind hx26;(conv=>whnf);refine CallG.pure _ (law09WakesC hN hx29) ?_;cases hx26;(conv=>whnf);refine ⟨(), trivial, Sub.eq rfl ?_ ?_⟩
       ·(repeat ((conv=>whnf);refine nr ?_));exact trivial
       ·exact trivial
      ·replace hx26 := ite_f hc16 hx26;cases hx26;(conv=>whnf);refine ⟨(), trivial, Sub.eq rfl ?_ ?_⟩
       ·(repeat ((conv=>whnf);refine nr ?_));exact trivial
       ·exact trivial
     ·replace hx26 := ite_f hc15 hx26;cases hx26;(conv=>whnf);refine ⟨(), trivial, Sub.eq rfl ?_ ?_⟩
      ·(repeat ((conv=>whnf);refine nr ?_));exact trivial
      ·exact trivial
    ·rintro _ _;(conv=>whnf);cases h;exact rfl
end Go.Proofs.Ytbceakhnnnfiaaa
