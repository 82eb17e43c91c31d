/-
  The walk of the law LadderMays.
-/
import Derived.Test.YtbceakhnnnfiaaaDLadderMays
import Derived.Test.YtbceakhnnnfiaaaWe
import Derived.Test.YtbceakhnnnfiaaaVc
import Derived.Test.YtbceakhnnnfiaaaVf
import Derived.Test.YtbceakhnnnfiaaaVi
import Derived.Test.YtbceakhnnnfiaaaVk
import Derived.Test.YtbceakhnnnfiaaaVm
namespace Go.Proofs.Ytbceakhnnnfiaaa
open Go Go.Abs Go.Kp
set_option maxRecDepth 100000
set_option maxHeartbeats 8000000
set_option linter.all false

theorem law09LadderMaysC {N : Nat} (hN : N ≤ 1073741824) {c1 : Ref09Cup} {r : Bool} (h : law09LadderMays N c1 = some r) :
    ACalls Try.prog 3 [.d (.agg [.int .u8 c1.fForm, I c1.fPlayers, I c1.fGames, .list 3 (List.map Ref09Result.enc c1.fResults)])] [] fun e os => e = .ret (.d (.bool r)) ∧ os = [] := by
  refine acalls_f (fresh := false) tt_ok dr_ok ⟨[1], [], [], [], [6, 14, 1009, 1012], 0, []⟩ Try.func3 rfl Try.call3 rfl ?_
  unfold law09LadderMays at h
  obtain ⟨r6, hx6, h⟩ := obind h;(conv=>whnf);refine CallG.pure _ (law09FewC hN hx6) ?_;(conv=>whnf);refine Br.mk (fun hc2 => ?_) (fun hc2 => ?_)
  ·replace h := ite_t hc2 h;obtain ⟨r8, hx8, h⟩ := obind h;(conv=>whnf);refine CallG.pure _ (law09WakesC hN hx8) ?_;(conv=>whnf);cases h;exact rfl
  ·replace h := ite_f hc2 h;obtain ⟨r10, hx11, h⟩ := obind h;(conv=>whnf);refine CallG.pure _ (law09CupC hN hx11) ?_;obtain ⟨⟨ra2, rb2⟩, hx12, h⟩ := obind h;(conv=>whnf);refine CallG.pure _ (ladderMayWinC hN hx12) ?_;obtain ⟨r16, hx19, h⟩ := obind h;(conv=>whnf);refine CallG.pure _ (law09FaultC hN hx19) ?_;(conv=>whnf);refine Br.mk (fun hc8 => ?_) (fun hc8 => ?_)
   ·replace h := ite_t hc8 h;obtain ⟨v2, hx21, h⟩ := obind h;(conv=>whnf);refine SeqG.mk Unit (fun y => [(2, .d (.bool v2))]) (fun y => []) (fun _ => True) ?_ ?_
    ·(conv=>whnf);refine Br.mk (fun hc11 => ?_) (fun hc11 => ?_)
     ·replace hx21 := ite_t hc11 hx21;(conv=>whnf);refine LnA.mk _ (List.length_map _) ?_;(conv=>whnf);refine Br.mk (fun hc12 => ?_) (fun hc12 => ?_)
      ·replace hx21 := ite_t hc12 hx21;obtain ⟨r18, hx22, hx21⟩ := obind hx21;(conv=>whnf);refine CallG.pure _ (law09WakesC hN hx22) ?_;cases hx21;(conv=>whnf);refine ⟨(), trivial, Sub.eq rfl ?_ ?_⟩
       ·(repeat ((conv=>whnf);refine nr ?_));exact trivial
       ·exact trivial
      ·replace hx21 := ite_f hc12 hx21;cases hx21;(conv=>whnf);refine ⟨(), trivial, Sub.eq rfl ?_ ?_⟩
       ·(repeat ((conv=>whnf);refine nr ?_));exact trivial
       ·exact trivial
     ·replace hx21 := ite_f hc11 hx21;cases hx21;(conv=>whnf);refine ⟨(), trivial, Sub.eq rfl ?_ ?_⟩
      ·(repeat ((conv=>whnf);refine nr ?_));exact trivial
      ·exact trivial
    ·rintro _ _;(conv=>whnf);cases h;exact rfl
   ·replace h := ite_f hc8 h;obtain ⟨r20, hx24, h⟩ := obind h;(conv=>whnf);refine CallG.pure _ (ref09LeastC hN hx24) ?_;obtain ⟨l14, hx46, h⟩ := obind h;(conv=>whnf);refine SeqG.mk Value (fun y => [(3, .d (.list 1 (List.map I ra2))), (4, .d (I rb2)), (6, .sl 50 y)]) (fun y => [(50, .arr y 3 1 false (List.map I l14))]) (fun _ => True) ?_ ?_
    ·(conv=>whnf);refine LoopG.mk (Nat × (Int × (List Int)) × Value) (fun y => [(3, .d (.list 1 (List.map I ra2))), (4, .d (I rb2)), (6, .sl 50 y.2.2), (7, .d (.list 1 (List.map I r20))), (8, .d (I y.2.1.1))]) (fun y => [(50, .arr y.2.2 3 1 false (List.map I y.2.1.2))]) (fun y => loopN (fun rr x => law09LadderMays_b1 N r20 rr x.1 x.2) y.1 y.2.1 = some l14) (fun y => y.1) (N, (0, []), (.slice none 0 0)) hx46 (Sub.eq rfl ?_ ?_) ?_
     ·(repeat ((conv=>whnf);refine nr ?_));exact trivial
     ·(conv=>whnf);refine Need.mk (OLe.nil _ _ _ _) ?_;exact trivial
     ·rintro ⟨n2, ⟨p8, l24⟩, hd34⟩ hl2;obtain ⟨n2, rfl, hl2⟩ := loopN_some hl2;replace hl2 : law09LadderMays_b1 N r20 (loopN (fun rr x => law09LadderMays_b1 N r20 rr x.1 x.2) n2) p8 l24 = some l14 := hl2;rw [law09LadderMays_b1] at hl2;(conv=>whnf);refine LnA.mk _ (List.length_map _) ?_;(conv=>whnf);refine Br.mk (fun hc34 => ?_) (fun hc34 => ?_)
      ·replace hl2 := ite_t hc34 hl2;obtain ⟨l26, hx64, hl2⟩ := obind hl2;(conv=>whnf);refine SeqG.mk Value (fun y => [(3, .d (.list 1 (List.map I ra2))), (4, .d (I rb2)), (6, .sl 50 y), (7, .d (.list 1 (List.map I r20))), (8, .d (I p8))]) (fun y => [(50, .arr y 3 1 false (List.map I l26))]) (fun _ => True) ?_ ?_
       ·obtain ⟨x24, hx66, hx64⟩ := obind hx64;(conv=>whnf);refine Side.mk rfl ⟨_, idx_0 hx66, idx_map _ hx66, ?_⟩;(conv=>whnf);refine Br.mk (fun hc36 => ?_) (fun hc36 => ?_)
        ·replace hx64 := ite_t hc36 hx64;(conv=>whnf);intro hd38;obtain ⟨l27, hx67, hx64⟩ := obind hx64;(conv=>whnf);refine Side.mk ⟨rfl, rfl⟩ ?_;(conv=>whnf);refine Side.mk ⟨rfl, rfl, rfl⟩ (Need.mk (app_need hN hx67 (by decide)) (Eqv.mk (List.map I l27) (app_map _ hx67) ?_));(conv=>whnf);intro hd39;cases hx64;(conv=>whnf);refine ⟨hd39, trivial, Sub.eq rfl ?_ ?_⟩
         ·(repeat ((conv=>whnf);refine nr ?_));exact trivial
         ·(conv=>whnf);refine no ?_;exact trivial
        ·replace hx64 := ite_f hc36 hx64;cases hx64;(conv=>whnf);refine ⟨hd34, trivial, Sub.eq rfl ?_ ?_⟩
         ·(repeat ((conv=>whnf);refine nr ?_));exact trivial
         ·(conv=>whnf);refine no ?_;exact trivial
       ·rintro hd37 _;(conv=>whnf);refine ⟨(n2, (w64 (p8 + 1), l26), hd37), hl2, Sub.eq rfl ?_ ?_, Nat.lt_succ_self _⟩
        ·(repeat ((conv=>whnf);refine nr ?_));exact trivial
        ·(conv=>whnf);refine no ?_;exact trivial
      ·replace hl2 := ite_f hc34 hl2;cases hl2;(conv=>whnf);refine ⟨hd34, trivial, Sub.eq rfl ?_ ?_⟩
       ·(repeat ((conv=>whnf);refine nr ?_));exact trivial
       ·(conv=>whnf);refine no ?_;exact trivial
    ·rintro hd20 _;obtain ⟨v3, hx70, h⟩ := obind h;(conv=>whnf);refine SeqG.mk Unit (fun y => [(2, .d (.bool v3))]) (fun y => []) (fun _ => True) ?_ ?_
     ·(conv=>whnf);refine Br.mk (fun hc39 => ?_) (fun hc39 => ?_)
      ·replace hx70 := ite_t hc39 hx70;obtain ⟨r23, hx71, hx70⟩ := obind hx70;(conv=>whnf);refine sr ?_;(conv=>whnf);refine CallG.pure _ (law09IntsC hN hx71) ?_;(conv=>whnf);refine Br.mk (fun hc40 => ?_) (fun hc40 => ?_)
       ·replace hx70 := ite_t hc40 hx70;obtain ⟨r24, hx72, hx70⟩ := obind hx70;(conv=>whnf);refine CallG.pure _ (law09WakesC hN hx72) ?_;cases hx70;(conv=>whnf);refine ⟨(), trivial, Sub.eq rfl ?_ ?_⟩
        ·(repeat ((conv=>whnf);refine nr ?_));exact trivial
        ·exact trivial
       ·replace hx70 := ite_f hc40 hx70;cases hx70;(conv=>whnf);refine ⟨(), trivial, Sub.eq rfl ?_ ?_⟩
        ·(repeat ((conv=>whnf);refine nr ?_));exact trivial
        ·exact trivial
      ·replace hx70 := ite_f hc39 hx70;cases hx70;(conv=>whnf);refine ⟨(), trivial, Sub.eq rfl ?_ ?_⟩
       ·(repeat ((conv=>whnf);refine nr ?_));exact trivial
       ·exact trivial
     ·rintro _ _;(conv=>whnf);cases h;exact rfl
end Go.Proofs.Ytbceakhnnnfiaaa
