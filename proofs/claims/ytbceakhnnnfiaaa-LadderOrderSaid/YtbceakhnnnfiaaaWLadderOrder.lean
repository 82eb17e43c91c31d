/-
  The walk of the law LadderOrder.
-/
import Derived.Test.YtbceakhnnnfiaaaDLadderOrder
import Derived.Test.YtbceakhnnnfiaaaWe
import Derived.Test.YtbceakhnnnfiaaaVb
import Derived.Test.YtbceakhnnnfiaaaVc
import Derived.Test.YtbceakhnnnfiaaaVf
import Derived.Test.YtbceakhnnnfiaaaVg
namespace Go.Proofs.Ytbceakhnnnfiaaa
open Go Go.Abs Go.Kp
set_option maxRecDepth 100000
set_option maxHeartbeats 8000000
set_option linter.all false

theorem law09LadderOrderC {N : Nat} (hN : N ≤ 1073741824) {c1 : Ref09Cup} {by1 : Int} {r : Bool} (h : law09LadderOrder N c1 by1 = some r) :
    ACalls Try.prog 7 [.d (.agg [.int .u8 c1.fForm, I c1.fPlayers, I c1.fGames, .list 3 (List.map Ref09Result.enc c1.fResults)]), .d (.int .u8 by1)] [] fun e os => e = .ret (.d (.bool r)) ∧ os = [] := by
  refine acalls_f (fresh := false) tt_ok dr_ok ⟨[2], [], [], [], [1, 5, 12, 1014], 0, []⟩ Try.func7 rfl Try.call7 rfl ?_
  unfold law09LadderOrder at h
  obtain ⟨v2, hx7, h⟩ := obind h;(conv=>whnf);refine SeqG.mk Unit (fun y => [(1, .d (.int .u8 by1)), (2, .d (.ref (.agg [.int .u8 c1.fForm, I c1.fPlayers, I c1.fGames, .list 3 (List.map Ref09Result.enc c1.fResults)]))), (28, .d (.bool v2))]) (fun y => []) (fun _ => True) ?_ ?_
  ·obtain ⟨r6, hx8, hx7⟩ := obind hx7;(conv=>whnf);refine CallG.pure _ (law09ReadyC hN hx8) ?_;(conv=>whnf);refine Br.mk (fun hc5 => ?_) (fun hc5 => ?_)
   ·replace hx7 := ite_f hc5 hx7;(conv=>whnf);refine LnA.mk _ (List.length_map _) ?_;cases hx7;(conv=>whnf);refine ⟨(), trivial, Sub.eq rfl ?_ ?_⟩
    ·(repeat ((conv=>whnf);refine nr ?_));exact trivial
    ·exact trivial
   ·replace hx7 := ite_t hc5 hx7;cases hx7;(conv=>whnf);refine ⟨(), trivial, Sub.eq rfl ?_ ?_⟩
    ·(repeat ((conv=>whnf);refine nr ?_));exact trivial
    ·exact trivial
  ·rintro _ _;(conv=>whnf);refine Br.mk (fun hc6 => ?_) (fun hc6 => ?_)
   ·replace h := ite_t hc6 h;obtain ⟨r8, hx10, h⟩ := obind h;(conv=>whnf);refine CallG.pure _ (law09WakesC hN hx10) ?_;(conv=>whnf);cases h;exact rfl
   ·replace h := ite_f hc6 h;(conv=>whnf);refine LnA.mk _ (List.length_map _) ?_;obtain ⟨_, hx12, h⟩ := obind h;(conv=>whnf);refine Need.mk (nz_ne hx12) ?_;(conv=>whnf);intro b2;(conv=>whnf);refine sr ?_;obtain ⟨l5, hx17, h⟩ := obind h;(conv=>whnf);refine SeqG.mk Value (fun y => [(2, .d (.ref (.agg [.int .u8 c1.fForm, I c1.fPlayers, I c1.fGames, .list 3 (List.map Ref09Result.enc c1.fResults)]))), (6, .ptr 6 b2 0)]) (fun y => [(6, .cells b2 [.d (.int .u8 c1.fForm), .d (I c1.fPlayers), .d (I c1.fGames), .sl 37 y]), (37, .arr y 45 3 false (List.map Ref09Result.enc l5))]) (fun _ => True) ?_ ?_
    ·obtain ⟨l6, hx18, hx17⟩ := obind hx17;obtain ⟨l7, hx19, hx17⟩ := obind hx17;obtain ⟨l8, hx20, hx17⟩ := obind hx17;obtain ⟨l9, hx21, hx17⟩ := obind hx17;(conv=>whnf)
     refine DrawG.mk (.take 1 (.take 2 (.take 3 (.take 6 (.take 7 (.take 8 (.alt 0 [8, 7, 6, 3, 2, 1] (.alt 4 [8, 7, 6, 1] (.alt 5 [8, 7, 6, 1] (.alt 9 [6, 1] (.alt 10 [6, 1] (.take 11 (.alt 12 [] .done .nil)) .nil) .nil) (.alt 9 [6, 1] (.alt 5 [6, 1] (.alt 10 [6, 1] (.take 11 (.alt 12 [] .done .nil)) .nil) .nil) .nil)) (.alt 9 [6, 3, 2, 1] (.alt 4 [6, 1] (.alt 5 [6, 1] (.alt 10 [6, 1] (.take 11 (.alt 12 [] .done .nil)) .nil) .nil) .nil) .nil)) (.alt 4 [8, 7, 6, 1] (.alt 0 [8, 7, 6, 1] (.alt 5 [8, 7, 6, 1] (.alt 9 [6, 1] (.alt 10 [6, 1] (.take 11 (.alt 12 [] .done .nil)) .nil) .nil) (.alt 9 [6, 1] (.alt 5 [6, 1] (.alt 10 [6, 1] (.take 11 (.alt 12 [] .done .nil)) .nil) .nil) .nil)) (.alt 9 [6, 1] (.alt 0 [6, 1] (.alt 5 [6, 1] (.alt 10 [6, 1] (.take 11 (.alt 12 [] .done .nil)) .nil) .nil) .nil) .nil)) (.alt 9 [6, 3, 2, 1] (.alt 0 [6, 3, 2, 1] (.alt 4 [6, 1] (.alt 5 [6, 1] (.alt 10 [6, 1] (.take 11 (.alt 12 [] .done .nil)) .nil) .nil) .nil) (.alt 4 [6, 1] (.alt 0 [6, 1] (.alt 5 [6, 1] (.alt 10 [6, 1] (.take 11 (.alt 12 [] .done .nil)) .nil) .nil) .nil) .nil)) .nil))))))))) (by kernel_rfl) ?_
     (conv=>whnf);refine Both.mk ?_ ?_
     ·(conv=>whnf);intro hd29;(conv=>whnf);refine nl ?_;(conv=>whnf);refine nl ?_;(conv=>whnf);refine nl ?_;(conv=>whnf);refine nl ?_;(conv=>whnf);refine nl ?_;(conv=>whnf);refine nl ?_;(conv=>whnf);refine Both.mk ?_ ?_
      ·(conv=>whnf);refine Need.mk (slc_needL _ hx18) (Eqv.mk (List.map Ref09Result.enc l6) (slc_mapL _ hx18) ?_);(conv=>whnf);refine nl ?_;(conv=>whnf);refine nl ?_;(conv=>whnf);refine nl ?_;(conv=>whnf);refine nl ?_;(conv=>whnf);refine Both.mk ?_ ?_
       ·(conv=>whnf);refine sr ?_;(conv=>whnf);refine Side.mk ⟨rfl, rfl, rfl⟩ (Need.mk (app_need hN hx19 (by decide)) (Eqv.mk (List.map Ref09Result.enc l7) (app_map _ hx19) ?_));(conv=>whnf);intro hd30;(conv=>whnf);refine nl ?_;(conv=>whnf);refine nl ?_;(conv=>whnf);refine nl ?_;(conv=>whnf);refine nl ?_;(conv=>whnf);refine Both.mk ?_ trivial;(conv=>whnf);refine Need.mk (slc_need _ hx20) (Eqv.mk (List.map Ref09Result.enc l8) (slc_map _ hx20) ?_);(conv=>whnf);refine nl ?_;(conv=>whnf);refine nl ?_;(conv=>whnf);refine Both.mk ?_ trivial;(conv=>whnf);refine sr ?_;(conv=>whnf);refine Side.mk ⟨rfl, rfl, rfl⟩ (Need.mk (app_need hN hx21 (by decide)) (Eqv.mk (List.map Ref09Result.enc l9) (app_map _ hx21) ?_));(conv=>whnf);intro hd31;(conv=>whnf);refine nl ?_;(conv=>whnf);refine nl ?_;(conv=>whnf);refine Both.mk ?_ trivial;(conv=>whnf);refine sr ?_;cases hx17;(conv=>whnf)
        refine ⟨hd31, trivial, Sub.eq rfl ?_ ?_⟩
        ·(repeat ((conv=>whnf);refine nr ?_));exact trivial
        ·(conv=>whnf);refine no ?_;(conv=>whnf);refine no ?_;exact trivial
       ·(conv=>whnf);refine Both.mk ?_ trivial;(conv=>whnf);refine Need.mk (slc_need _ hx20) (Eqv.mk (List.map Ref09Result.enc l8) (slc_map _ hx20) ?_);(conv=>whnf);refine nl ?_;(conv=>whnf);refine nl ?_;(conv=>whnf);refine Both.mk ?_ trivial;(conv=>whnf);refine sr ?_;(conv=>whnf);refine Side.mk ⟨rfl, rfl, rfl⟩ (Need.mk (app_need hN hx19 (by decide)) (Eqv.mk (List.map Ref09Result.enc l7) (app_map _ hx19) ?_));(conv=>whnf);intro hd32;(conv=>whnf);refine nl ?_;(conv=>whnf);refine nl ?_;(conv=>whnf);refine Both.mk ?_ trivial;(conv=>whnf);refine sr ?_;(conv=>whnf);refine Side.mk ⟨rfl, rfl, rfl⟩ (Need.mk (app_need hN hx21 (by decide)) (Eqv.mk (List.map Ref09Result.enc l9) (app_map _ hx21) ?_));(conv=>whnf);intro hd33;(conv=>whnf);refine nl ?_;(conv=>whnf);refine nl ?_;(conv=>whnf);refine Both.mk ?_ trivial;(conv=>whnf);refine sr ?_;cases hx17;(conv=>whnf)
        refine ⟨hd33, trivial, Sub.eq rfl ?_ ?_⟩
        ·(repeat ((conv=>whnf);refine nr ?_));exact trivial
        ·(conv=>whnf);refine no ?_;(conv=>whnf);refine no ?_;exact trivial
      ·(conv=>whnf);refine Both.mk ?_ trivial;(conv=>whnf);refine Need.mk (slc_need _ hx20) (Eqv.mk (List.map Ref09Result.enc l8) (slc_map _ hx20) ?_);(conv=>whnf);refine nl ?_;(conv=>whnf);refine nl ?_;(conv=>whnf);refine nl ?_;(conv=>whnf);refine nl ?_;(conv=>whnf);refine Both.mk ?_ trivial;(conv=>whnf);refine Need.mk (slc_needL _ hx18) (Eqv.mk (List.map Ref09Result.enc l6) (slc_mapL _ hx18) ?_);(conv=>whnf);refine nl ?_;(conv=>whnf);refine nl ?_;(conv=>whnf);refine Both.mk ?_ trivial;(conv=>whnf);refine sr ?_;(conv=>whnf);refine Side.mk ⟨rfl, rfl, rfl⟩ (Need.mk (app_need hN hx19 (by decide)) (Eqv.mk (List.map Ref09Result.enc l7) (app_map _ hx19) ?_));(conv=>whnf);intro hd34;(conv=>whnf);refine nl ?_;(conv=>whnf);refine nl ?_;(conv=>whnf);refine Both.mk ?_ trivial;(conv=>whnf);refine sr ?_;(conv=>whnf)
       refine Side.mk ⟨rfl, rfl, rfl⟩ (Need.mk (app_need hN hx21 (by decide)) (Eqv.mk (List.map Ref09Result.enc l9) (app_map _ hx21) ?_));(conv=>whnf);intro hd35;(conv=>whnf);refine nl ?_;(conv=>whnf);refine nl ?_;(conv=>whnf);refine Both.mk ?_ trivial;(conv=>whnf);refine sr ?_;cases hx17;(conv=>whnf);refine ⟨hd35, trivial, Sub.eq rfl ?_ ?_⟩
       ·(repeat ((conv=>whnf);refine nr ?_));exact trivial
       ·(conv=>whnf);refine no ?_;(conv=>whnf);refine no ?_;exact trivial
     ·(conv=>whnf);refine Both.mk ?_ ?_
      ·(conv=>whnf);refine Need.mk (slc_needL _ hx18) (Eqv.mk (List.map Ref09Result.enc l6) (slc_mapL _ hx18) ?_);(conv=>whnf);refine nl ?_;(conv=>whnf);refine nl ?_;(conv=>whnf);refine nl ?_;(conv=>whnf);refine nl ?_;(conv=>whnf);refine Both.mk ?_ ?_
       ·(conv=>whnf);intro hd36;(conv=>whnf);refine nl ?_;(conv=>whnf);refine nl ?_;(conv=>whnf);refine nl ?_;(conv=>whnf);refine nl ?_;(conv=>whnf);refine Both.mk ?_ ?_
        ·(conv=>whnf);refine sr ?_;(conv=>whnf);refine Side.mk ⟨rfl, rfl, rfl⟩ (Need.mk (app_need hN hx19 (by decide)) (Eqv.mk (List.map Ref09Result.enc l7) (app_map _ hx19) ?_));(conv=>whnf);intro hd37;(conv=>whnf);refine nl ?_;(conv=>whnf);refine nl ?_;(conv=>whnf);refine nl ?_;(conv=>whnf);refine nl ?_;(conv=>whnf);refine Both.mk ?_ trivial;(conv=>whnf);refine Need.mk (slc_need _ hx20) (Eqv.mk (List.map Ref09Result.enc l8) (slc_map _ hx20) ?_);(conv=>whnf);refine nl ?_;(conv=>whnf);refine nl ?_;(conv=>whnf);refine Both.mk ?_ trivial;(conv=>whnf);refine sr ?_;(conv=>whnf);refine Side.mk ⟨rfl, rfl, rfl⟩ (Need.mk (app_need hN hx21 (by decide)) (Eqv.mk (List.map Ref09Result.enc l9) (app_map _ hx21) ?_));(conv=>whnf);intro hd38;(conv=>whnf);refine nl ?_;(conv=>whnf);refine nl ?_;(conv=>whnf);refine Both.mk ?_ trivial;(conv=>whnf);refine sr ?_;cases hx17;(conv=>whnf)
         refine ⟨hd38, trivial, Sub.eq rfl ?_ ?_⟩
         ·(repeat ((conv=>whnf);refine nr ?_));exact trivial
         ·(conv=>whnf);refine no ?_;(conv=>whnf);refine no ?_;exact trivial
        ·(conv=>whnf);refine Both.mk ?_ trivial;(conv=>whnf);refine Need.mk (slc_need _ hx20) (Eqv.mk (List.map Ref09Result.enc l8) (slc_map _ hx20) ?_);(conv=>whnf);refine nl ?_;(conv=>whnf);refine nl ?_;(conv=>whnf);refine Both.mk ?_ trivial;(conv=>whnf);refine sr ?_;(conv=>whnf);refine Side.mk ⟨rfl, rfl, rfl⟩ (Need.mk (app_need hN hx19 (by decide)) (Eqv.mk (List.map Ref09Result.enc l7) (app_map _ hx19) ?_));(conv=>whnf);intro hd39;(conv=>whnf);refine nl ?_;(conv=>whnf);refine nl ?_;(conv=>whnf);refine Both.mk ?_ trivial;(conv=>whnf);refine sr ?_;(conv=>whnf);refine Side.mk ⟨rfl, rfl, rfl⟩ (Need.mk (app_need hN hx21 (by decide)) (Eqv.mk (List.map Ref09Result.enc l9) (app_map _ hx21) ?_));(conv=>whnf);intro hd40;(conv=>whnf);refine nl ?_;(conv=>whnf);refine nl ?_;(conv=>whnf);refine Both.mk ?_ trivial;(conv=>whnf);refine sr ?_;cases hx17;(conv=>whnf)
         refine ⟨hd40, trivial, Sub.eq rfl ?_ ?_⟩
         ·(repeat ((conv=>whnf);refine nr ?_));exact trivial
         ·(conv=>whnf);refine no ?_;(conv=>whnf);refine no ?_;exact trivial
       ·(conv=>whnf);refine Both.mk ?_ trivial;(conv=>whnf);refine Need.mk (slc_need _ hx20) (Eqv.mk (List.map Ref09Result.enc l8) (slc_map _ hx20) ?_);(conv=>whnf);refine nl ?_;(conv=>whnf);refine nl ?_;(conv=>whnf);refine Both.mk ?_ trivial;(conv=>whnf);intro hd41;(conv=>whnf);refine nl ?_;(conv=>whnf);refine nl ?_;(conv=>whnf);refine Both.mk ?_ trivial;(conv=>whnf);refine sr ?_;(conv=>whnf);refine Side.mk ⟨rfl, rfl, rfl⟩ (Need.mk (app_need hN hx19 (by decide)) (Eqv.mk (List.map Ref09Result.enc l7) (app_map _ hx19) ?_));(conv=>whnf);intro hd42;(conv=>whnf);refine nl ?_;(conv=>whnf);refine nl ?_;(conv=>whnf);refine Both.mk ?_ trivial;(conv=>whnf);refine sr ?_;(conv=>whnf);refine Side.mk ⟨rfl, rfl, rfl⟩ (Need.mk (app_need hN hx21 (by decide)) (Eqv.mk (List.map Ref09Result.enc l9) (app_map _ hx21) ?_));(conv=>whnf);intro hd43;(conv=>whnf);refine nl ?_;(conv=>whnf);refine nl ?_
        (conv=>whnf);refine Both.mk ?_ trivial;(conv=>whnf);refine sr ?_;cases hx17;(conv=>whnf);refine ⟨hd43, trivial, Sub.eq rfl ?_ ?_⟩
        ·(repeat ((conv=>whnf);refine nr ?_));exact trivial
        ·(conv=>whnf);refine no ?_;(conv=>whnf);refine no ?_;exact trivial
      ·(conv=>whnf);refine Both.mk ?_ trivial;(conv=>whnf);refine Need.mk (slc_need _ hx20) (Eqv.mk (List.map Ref09Result.enc l8) (slc_map _ hx20) ?_);(conv=>whnf);refine nl ?_;(conv=>whnf);refine nl ?_;(conv=>whnf);refine nl ?_;(conv=>whnf);refine nl ?_;(conv=>whnf);refine Both.mk ?_ ?_
       ·(conv=>whnf);intro hd44;(conv=>whnf);refine nl ?_;(conv=>whnf);refine nl ?_;(conv=>whnf);refine nl ?_;(conv=>whnf);refine nl ?_;(conv=>whnf);refine Both.mk ?_ trivial;(conv=>whnf);refine Need.mk (slc_needL _ hx18) (Eqv.mk (List.map Ref09Result.enc l6) (slc_mapL _ hx18) ?_);(conv=>whnf);refine nl ?_;(conv=>whnf);refine nl ?_;(conv=>whnf);refine Both.mk ?_ trivial;(conv=>whnf);refine sr ?_;(conv=>whnf);refine Side.mk ⟨rfl, rfl, rfl⟩ (Need.mk (app_need hN hx19 (by decide)) (Eqv.mk (List.map Ref09Result.enc l7) (app_map _ hx19) ?_));(conv=>whnf);intro hd45;(conv=>whnf);refine nl ?_;(conv=>whnf);refine nl ?_;(conv=>whnf);refine Both.mk ?_ trivial;(conv=>whnf);refine sr ?_;(conv=>whnf);refine Side.mk ⟨rfl, rfl, rfl⟩ (Need.mk (app_need hN hx21 (by decide)) (Eqv.mk (List.map Ref09Result.enc l9) (app_map _ hx21) ?_));(conv=>whnf);intro hd46;(conv=>whnf);refine nl ?_;(conv=>whnf)
        refine nl ?_;(conv=>whnf);refine Both.mk ?_ trivial;(conv=>whnf);refine sr ?_;cases hx17;(conv=>whnf);refine ⟨hd46, trivial, Sub.eq rfl ?_ ?_⟩
        ·(repeat ((conv=>whnf);refine nr ?_));exact trivial
        ·(conv=>whnf);refine no ?_;(conv=>whnf);refine no ?_;exact trivial
       ·(conv=>whnf);refine Both.mk ?_ trivial;(conv=>whnf);refine Need.mk (slc_needL _ hx18) (Eqv.mk (List.map Ref09Result.enc l6) (slc_mapL _ hx18) ?_);(conv=>whnf);refine nl ?_;(conv=>whnf);refine nl ?_;(conv=>whnf);refine Both.mk ?_ trivial;(conv=>whnf);intro hd47;(conv=>whnf);refine nl ?_;(conv=>whnf);refine nl ?_;(conv=>whnf);refine Both.mk ?_ trivial;(conv=>whnf);refine sr ?_;(conv=>whnf);refine Side.mk ⟨rfl, rfl, rfl⟩ (Need.mk (app_need hN hx19 (by decide)) (Eqv.mk (List.map Ref09Result.enc l7) (app_map _ hx19) ?_));(conv=>whnf);intro hd48;(conv=>whnf);refine nl ?_;(conv=>whnf);refine nl ?_;(conv=>whnf);refine Both.mk ?_ trivial;(conv=>whnf);refine sr ?_;(conv=>whnf);refine Side.mk ⟨rfl, rfl, rfl⟩ (Need.mk (app_need hN hx21 (by decide)) (Eqv.mk (List.map Ref09Result.enc l9) (app_map _ hx21) ?_));(conv=>whnf);intro hd49;(conv=>whnf);refine nl ?_;(conv=>whnf);refine nl ?_
        (conv=>whnf);refine Both.mk ?_ trivial;(conv=>whnf);refine sr ?_;cases hx17;(conv=>whnf);refine ⟨hd49, trivial, Sub.eq rfl ?_ ?_⟩
        ·(repeat ((conv=>whnf);refine nr ?_));exact trivial
        ·(conv=>whnf);refine no ?_;(conv=>whnf);refine no ?_;exact trivial
    ·rintro hd25 _;obtain ⟨r10, hx24, h⟩ := obind h;(conv=>whnf);refine CallG.pure _ (law09CupC hN hx24) ?_;obtain ⟨⟨ra2, rb2⟩, hx25, h⟩ := obind h;(conv=>whnf);refine CallG.pure _ (ladderMayWinC hN hx25) ?_;(conv=>whnf);refine sr ?_;obtain ⟨r12, hx28, h⟩ := obind h;(conv=>whnf);refine sr ?_;(conv=>whnf);refine CallG.pure _ (law09CupC hN hx28) ?_;obtain ⟨⟨ra4, rb4⟩, hx29, h⟩ := obind h;(conv=>whnf);refine CallG.pure _ (ladderMayWinC hN hx29) ?_;obtain ⟨r14, hx32, h⟩ := obind h;(conv=>whnf);refine CallG.pure _ (law09CupC hN hx32) ?_;obtain ⟨⟨ra6, rb6⟩, hx33, h⟩ := obind h;(conv=>whnf);refine CallG.pure _ (ladderHangsC hN hx33) ?_;(conv=>whnf);refine sr ?_;obtain ⟨r16, hx36, h⟩ := obind h;(conv=>whnf);refine sr ?_;(conv=>whnf);refine CallG.pure _ (law09CupC hN hx36) ?_;obtain ⟨⟨ra8, rb8⟩, hx37, h⟩ := obind h;(conv=>whnf);refine CallG.pure _ (ladderHangsC hN hx37) ?_
     obtain ⟨r18, hx40, h⟩ := obind h;(conv=>whnf);refine CallG.pure _ (law09CupC hN hx40) ?_;obtain ⟨⟨ra10, rb10⟩, hx41, h⟩ := obind h;(conv=>whnf);refine CallG.pure _ (ladderNextC hN hx41) ?_;(conv=>whnf);refine sr ?_;obtain ⟨r20, hx44, h⟩ := obind h;(conv=>whnf);refine sr ?_;(conv=>whnf);refine CallG.pure _ (law09CupC hN hx44) ?_;obtain ⟨⟨ra12, rb12⟩, hx45, h⟩ := obind h;(conv=>whnf);refine CallG.pure _ (ladderNextC hN hx45) ?_;obtain ⟨v4, hx53, h⟩ := obind h;(conv=>whnf);refine SeqG.mk Unit (fun y => [(15, .d (.list 5 (List.map LadderMatch.enc ra10))), (17, .d (.list 5 (List.map LadderMatch.enc ra12))), (125, .d (.bool v4))]) (fun y => []) (fun _ => True) ?_ ?_
     ·(conv=>whnf);refine Br.mk (fun hc32 => ?_) (fun hc32 => ?_)
      ·replace hx53 := ite_f hc32 hx53;(conv=>whnf);refine Br.mk (fun hc33 => ?_) (fun hc33 => ?_)
       ·replace hx53 := ite_f hc33 hx53;obtain ⟨r27, hx54, hx53⟩ := obind hx53;(conv=>whnf);refine CallG.pure _ (law09IntsC hN hx54) ?_;(conv=>whnf);refine Br.mk (fun hc34 => ?_) (fun hc34 => ?_)
        ·replace hx53 := ite_f hc34 hx53;(conv=>whnf);refine Br.mk (fun hc35 => ?_) (fun hc35 => ?_)
         ·replace hx53 := ite_f hc35 hx53;(conv=>whnf);refine Br.mk (fun hc36 => ?_) (fun hc36 => ?_)
          ·replace hx53 := ite_f hc36 hx53;obtain ⟨r28, hx55, hx53⟩ := obind hx53;(conv=>whnf);refine CallG.pure _ (law09IntsC hN hx55) ?_;(conv=>whnf);refine Br.mk (fun hc37 => ?_) (fun hc37 => ?_)
           ·replace hx53 := ite_f hc37 hx53;(conv=>whnf);refine Br.mk (fun hc38 => ?_) (fun hc38 => ?_)
            ·replace hx53 := ite_f hc38 hx53;(conv=>whnf);refine Br.mk (fun hc39 => ?_) (fun hc39 => ?_)
             ·replace hx53 := ite_f hc39 hx53;(conv=>whnf);refine LnA.mk _ (List.length_map _) ?_;(conv=>whnf);refine LnA.mk _ (List.length_map _) ?_;cases hx53;(conv=>whnf);refine ⟨(), trivial, Sub.eq rfl ?_ ?_⟩
              ·(repeat ((conv=>whnf);refine nr ?_));exact trivial
              ·exact trivial
             ·replace hx53 := ite_t hc39 hx53;cases hx53;(conv=>whnf);refine ⟨(), trivial, Sub.eq rfl ?_ ?_⟩
              ·(repeat ((conv=>whnf);refine nr ?_));exact trivial
              ·exact trivial
            ·replace hx53 := ite_t hc38 hx53;cases hx53;(conv=>whnf);refine ⟨(), trivial, Sub.eq rfl ?_ ?_⟩
             ·(repeat ((conv=>whnf);refine nr ?_));exact trivial
             ·exact trivial
           ·replace hx53 := ite_t hc37 hx53;cases hx53;(conv=>whnf);refine ⟨(), trivial, Sub.eq rfl ?_ ?_⟩
            ·(repeat ((conv=>whnf);refine nr ?_));exact trivial
            ·exact trivial
          ·replace hx53 := ite_t hc36 hx53;cases hx53;(conv=>whnf);refine ⟨(), trivial, Sub.eq rfl ?_ ?_⟩
           ·(repeat ((conv=>whnf);refine nr ?_));exact trivial
           ·exact trivial
         ·replace hx53 := ite_t hc35 hx53;cases hx53;(conv=>whnf);refine ⟨(), trivial, Sub.eq rfl ?_ ?_⟩
          ·(repeat ((conv=>whnf);refine nr ?_));exact trivial
          ·exact trivial
        ·replace hx53 := ite_t hc34 hx53;cases hx53;(conv=>whnf);refine ⟨(), trivial, Sub.eq rfl ?_ ?_⟩
         ·(repeat ((conv=>whnf);refine nr ?_));exact trivial
         ·exact trivial
       ·replace hx53 := ite_t hc33 hx53;cases hx53;(conv=>whnf);refine ⟨(), trivial, Sub.eq rfl ?_ ?_⟩
        ·(repeat ((conv=>whnf);refine nr ?_));exact trivial
        ·exact trivial
      ·replace hx53 := ite_t hc32 hx53;cases hx53;(conv=>whnf);refine ⟨(), trivial, Sub.eq rfl ?_ ?_⟩
       ·(repeat ((conv=>whnf);refine nr ?_));exact trivial
       ·exact trivial
     ·rintro _ _;(conv=>whnf);refine Br.mk (fun hc40 => ?_) (fun hc40 => ?_)
      ·replace h := ite_t hc40 h;(conv=>whnf);cases h;exact rfl
      ·replace h := ite_f hc40 h;(conv=>whnf);refine SeqG.mk Unit (fun y => []) (fun y => []) (fun y => law09LadderOrder_k1 N = some r) ?_ ?_
       ·(conv=>whnf);refine LoopG.mk (Nat × Int) (fun y => [(15, .d (.list 5 (List.map LadderMatch.enc ra10))), (17, .d (.list 5 (List.map LadderMatch.enc ra12))), (19, .d (I y.2))]) (fun y => []) (fun y => loopN (fun rr x => law09LadderOrder_b2 N ra10 ra12 rr x) y.1 y.2 = some r) (fun y => y.1) (N, 0) h (Sub.eq rfl ?_ ?_) ?_
        ·(repeat ((conv=>whnf);refine nr ?_));exact trivial
        ·exact trivial
        ·rintro ⟨n2, k8⟩ hl2;obtain ⟨n2, rfl, hl2⟩ := loopN_some hl2;replace hl2 : law09LadderOrder_b2 N ra10 ra12 (loopN (fun rr x => law09LadderOrder_b2 N ra10 ra12 rr x) n2) k8 = some r := hl2;rw [law09LadderOrder_b2] at hl2;(conv=>whnf);refine LnA.mk _ (List.length_map _) ?_;(conv=>whnf);refine Br.mk (fun hc62 => ?_) (fun hc62 => ?_)
         ·replace hl2 := ite_t hc62 hl2;obtain ⟨x47, hx104, hl2⟩ := obind hl2;obtain ⟨x48, hx105, hl2⟩ := obind hl2;(conv=>whnf);refine DrawG.mk (.take 0 (.take 1 (.take 2 (.take 3 (.take 4 (.take 5 (.take 6 (.take 7 (.take 8 .done))))))))) (by kernel_rfl) ?_;(conv=>whnf);refine Side.mk rfl ⟨_, idx_0 hx104, idx_map _ hx104, ?_⟩;(conv=>whnf);refine Side.mk rfl ⟨_, idx_0 hx105, idx_map _ hx105, ?_⟩;(conv=>whnf);refine Need.mk ⟨rfl, rfl⟩ (EqB.mk _ (LadderMatch.eqc x47 x48) ?_);(conv=>whnf);refine Br.mk (fun hc64 => ?_) (fun hc64 => ?_)
          ·replace hl2 := ite_t hc64 hl2;(conv=>whnf);cases hl2;exact rfl
          ·replace hl2 := ite_f hc64 hl2;(conv=>whnf);refine ⟨(n2, w64 (k8 + 1)), hl2, Sub.eq rfl ?_ ?_, Nat.lt_succ_self _⟩
           ·(repeat ((conv=>whnf);refine nr ?_));exact trivial
           ·exact trivial
         ·replace hl2 := ite_f hc62 hl2;(conv=>whnf);refine ⟨(), hl2, Sub.eq rfl ?_ ?_⟩
          ·(repeat ((conv=>whnf);refine nr ?_));exact trivial
          ·exact trivial
       ·clear h;rintro _ h;unfold law09LadderOrder_k1 at h;obtain ⟨r30, hx81, h⟩ := obind h;(conv=>whnf);refine CallG.pure _ (law09WakesC hN hx81) ?_;(conv=>whnf);cases h;exact rfl
end Go.Proofs.Ytbceakhnnnfiaaa
