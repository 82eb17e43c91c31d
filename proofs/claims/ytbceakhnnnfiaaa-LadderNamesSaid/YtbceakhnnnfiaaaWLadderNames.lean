/-
  The walk of the law LadderNames.
-/
import Derived.Test.YtbceakhnnnfiaaaDLadderNames
import Derived.Test.YtbceakhnnnfiaaaWe
import Derived.Test.YtbceakhnnnfiaaaVa
import Derived.Test.YtbceakhnnnfiaaaVc
import Derived.Test.YtbceakhnnnfiaaaVl
import Derived.Test.YtbceakhnnnfiaaaVo
import Derived.Test.YtbceakhnnnfiaaaVp
import Derived.Test.YtbceakhnnnfiaaaVq
import Derived.Test.YtbceakhnnnfiaaaVr
namespace Go.Proofs.Ytbceakhnnnfiaaa
open Go Go.Abs Go.Kp
set_option maxRecDepth 100000
set_option maxHeartbeats 8000000
set_option linter.all false

theorem law09LadderNamesC {N : Nat} (hN : N ≤ 1073741824)  {Q : Bool → Prop} (h : law09LadderNames N Q) :
    ACalls Try.prog 17 [] [] (fun ae os => ∃ r : Bool, Q r ∧ (fun e os => e = .ret (.d (.bool r)) ∧ os = []) ae os) := by
  refine acalls_pred (fresh := false) tt_ok dr_ok ⟨[], [], [], [], [7, 19], 0, []⟩ Try.func17 rfl Try.call17 rfl ?_
  unfold law09LadderNames at h
  obtain ⟨r2, hx3, h⟩ := bindO_el h;(conv=>whnf);refine CallG.pure _ (law09FiveC hN hx3) ?_;obtain ⟨⟨ra2, rb2⟩, hx4, h⟩ := bindO_el h;(conv=>whnf);refine CallG.pure _ (ladderTreeC hN hx4) ?_;obtain ⟨⟨ra4, rb4⟩, hx6, h⟩ := bindO_el h;(conv=>whnf);refine CallG.pure _ (ladderTreeC hN hx6) ?_;(conv=>whnf);intro hd4;obtain ⟨r6, hx11, h⟩ := bindO_el h;(conv=>whnf);refine sr ?_;(conv=>whnf);refine CallG.pure _ (law09ResultC hN hx11) ?_;(conv=>whnf);intro hd5;obtain ⟨r7, hx12, h⟩ := bindO_el h;(conv=>whnf);refine sr ?_;(conv=>whnf);refine CallG.pure _ (law09ResultC hN hx12) ?_;(conv=>whnf);intro hd6;obtain ⟨r8, hx13, h⟩ := bindO_el h;(conv=>whnf);refine sr ?_;(conv=>whnf);refine CallG.pure _ (law09FiveC hN hx13) ?_;obtain ⟨⟨ra6, rb6⟩, hx14, h⟩ := bindO_el h;(conv=>whnf);refine CallG.pure _ (ladderUpsetsC hN hx14) ?_;(conv=>whnf);intro hd10;obtain ⟨r12, hx19, h⟩ := bindO_el h;(conv=>whnf)
  refine sr ?_;(conv=>whnf);refine CallG.pure _ (law09ResultC hN hx19) ?_;(conv=>whnf);intro hd11;obtain ⟨r13, hx20, h⟩ := bindO_el h;(conv=>whnf);refine sr ?_;(conv=>whnf);refine CallG.pure _ (law09ResultC hN hx20) ?_;(conv=>whnf);intro hd12;obtain ⟨r14, hx21, h⟩ := bindO_el h;(conv=>whnf);refine sr ?_;(conv=>whnf);refine CallG.pure _ (law09FiveC hN hx21) ?_;obtain ⟨⟨ra8, rb8⟩, hx22, h⟩ := bindO_el h;(conv=>whnf);refine CallG.pure _ (ladderMayWinC hN hx22) ?_;(conv=>whnf);intro hd18;obtain ⟨r20, hx28, h⟩ := bindO_el h;(conv=>whnf);refine sr ?_;(conv=>whnf);refine CallG.pure _ (law09ResultC hN hx28) ?_;(conv=>whnf);intro hd19;obtain ⟨r21, hx29, h⟩ := bindO_el h;(conv=>whnf);refine sr ?_;(conv=>whnf);refine CallG.pure _ (law09ResultC hN hx29) ?_;(conv=>whnf);intro hd20;obtain ⟨r22, hx30, h⟩ := bindO_el h;(conv=>whnf);refine sr ?_;(conv=>whnf);refine CallG.pure _ (law09ResultC hN hx30) ?_
  (conv=>whnf);intro hd21;obtain ⟨r23, hx31, h⟩ := bindO_el h;(conv=>whnf);refine sr ?_;(conv=>whnf);refine CallG.pure _ (law09ResultC hN hx31) ?_;(conv=>whnf);intro hd22;obtain ⟨r24, hx32, h⟩ := bindO_el h;(conv=>whnf);refine sr ?_;(conv=>whnf);refine CallG.pure _ (law09FiveC hN hx32) ?_;(conv=>whnf);intro b2;(conv=>whnf);refine sr ?_;(conv=>whnf);refine sr ?_;obtain ⟨⟨ra10, rb10⟩, hx34, h⟩ := bindO_el h;(conv=>whnf);refine CallG.pure _ (ladderWinnerXC hN hx34) ?_;(conv=>whnf);refine SeqG.mk Bool (fun y => [(9, .ptr 9 b2 0), (149, .d (.bool y))]) (fun y => [(9, .cells b2 [.d (.int .u8 r24.fForm), .d (I r24.fPlayers), .d (I r24.fGames), .d (.list 3 (List.map LadderResult.enc r24.fResults))])]) (fun y => law09LadderNames_k2 N r24 y Q) ?_ ?_
  ·(conv=>whnf);refine Br.mk (fun hc72 => ?_) (fun hc72 => ?_)
   ·replace h := ite_fW hc72 h;(conv=>whnf);refine LnA.mk _ (List.length_map _) ?_;(conv=>whnf);refine Br.mk (fun hc73 => ?_) (fun hc73 => ?_)
    ·replace h := ite_fW hc73 h;obtain ⟨x15, hx116, h⟩ := bindO_el h;(conv=>whnf);refine Side.mk rfl ⟨_, idx_0 hx116, idx_map _ hx116, ?_⟩;(conv=>whnf);refine Need.mk ⟨rfl, rfl⟩ (EqB.mk _ (LadderPair.eqc x15 ((LadderPair.mk (LadderSide.mk 3 (-1)) (LadderSide.mk 4 (-1))))) ?_);(conv=>whnf);refine Br.mk (fun hc74 => ?_) (fun hc74 => ?_)
     ·replace h := ite_fW hc74 h;obtain ⟨x16, hx117, h⟩ := bindO_el h;(conv=>whnf);refine Side.mk rfl ⟨_, idx_0 hx117, idx_map _ hx117, ?_⟩;(conv=>whnf);refine Need.mk ⟨rfl, rfl⟩ (EqB.mk _ (LadderPair.eqc x16 ((LadderPair.mk (LadderSide.mk 0 (-1)) (LadderSide.mk (-1) 0)))) ?_);(conv=>whnf);refine Br.mk (fun hc75 => ?_) (fun hc75 => ?_)
      ·replace h := ite_fW hc75 h;obtain ⟨x17, hx118, h⟩ := bindO_el h;(conv=>whnf);refine Side.mk rfl ⟨_, idx_0 hx118, idx_map _ hx118, ?_⟩;(conv=>whnf);refine Need.mk ⟨rfl, rfl⟩ (EqB.mk _ (LadderPair.eqc x17 ((LadderPair.mk (LadderSide.mk (-1) 1) (LadderSide.mk (-1) 2)))) ?_);(conv=>whnf);refine Br.mk (fun hc76 => ?_) (fun hc76 => ?_)
       ·replace h := ite_fW hc76 h;(conv=>whnf);refine Br.mk (fun hc77 => ?_) (fun hc77 => ?_)
        ·replace h := ite_fW hc77 h;(conv=>whnf);refine LnA.mk _ (List.length_map _) ?_;(conv=>whnf);refine Br.mk (fun hc78 => ?_) (fun hc78 => ?_)
         ·replace h := ite_fW hc78 h;obtain ⟨x18, hx119, h⟩ := bindO_el h;(conv=>whnf);refine Side.mk rfl ⟨_, idx_0 hx119, idx_map _ hx119, ?_⟩;(conv=>whnf);refine Need.mk ⟨rfl, rfl⟩ (EqB.mk _ (LadderPair.eqc x18 ((LadderPair.mk (LadderSide.mk 0 (-1)) (LadderSide.mk (-1) 0)))) ?_);(conv=>whnf);refine Br.mk (fun hc79 => ?_) (fun hc79 => ?_)
          ·replace h := ite_fW hc79 h;(conv=>whnf);refine Br.mk (fun hc80 => ?_) (fun hc80 => ?_)
           ·replace h := ite_fW hc80 h;(conv=>whnf);refine Br.mk (fun hc81 => ?_) (fun hc81 => ?_)
            ·replace h := ite_fW hc81 h;(conv=>whnf);refine Br.mk (fun hc82 => ?_) (fun hc82 => ?_)
             ·replace h := ite_fW hc82 h;(conv=>whnf);intro hd62;obtain ⟨r80, hx120, h⟩ := bindO_el h;(conv=>whnf);refine sr ?_;(conv=>whnf);refine CallG.pure _ (law09IntsC hN hx120) ?_;(conv=>whnf);refine Br.mk (fun hc83 => ?_) (fun hc83 => ?_)
              ·replace h := ite_fW hc83 h;(conv=>whnf);refine Br.mk (fun hc84 => ?_) (fun hc84 => ?_)
               ·replace h := ite_fW hc84 h;(conv=>whnf);refine Br.mk (fun hc85 => ?_) (fun hc85 => ?_)
                ·replace h := ite_fW hc85 h;(conv=>whnf);refine sr ?_;(conv=>whnf);intro hd63;obtain ⟨r81, hx121, h⟩ := bindO_el h;(conv=>whnf);refine sr ?_;(conv=>whnf);refine CallG.pure _ (ladderProveWayC hN hx121) ?_;(conv=>whnf);refine Br.mk (fun hc86 => ?_) (fun hc86 => ?_)
                 ·replace h := ite_fW hc86 h;(conv=>whnf);refine sr ?_;(conv=>whnf);intro hd64;obtain ⟨r82, hx122, h⟩ := bindO_el h;(conv=>whnf);refine sr ?_;(conv=>whnf);refine CallG.pure _ (ladderProveWayC hN hx122) ?_;(conv=>whnf);refine ⟨r82, h, Sub.eq rfl ?_ ?_⟩
                  ·(repeat ((conv=>whnf);refine nr ?_));exact trivial
                  ·(conv=>whnf);refine no ?_;exact trivial
                 ·replace h := ite_tW hc86 h;(conv=>whnf);refine ⟨true, h, Sub.eq rfl ?_ ?_⟩
                  ·(repeat ((conv=>whnf);refine nr ?_));exact trivial
                  ·(conv=>whnf);refine no ?_;exact trivial
                ·replace h := ite_tW hc85 h;(conv=>whnf);refine ⟨true, h, Sub.eq rfl ?_ ?_⟩
                 ·(repeat ((conv=>whnf);refine nr ?_));exact trivial
                 ·(conv=>whnf);refine no ?_;exact trivial
               ·replace h := ite_tW hc84 h;(conv=>whnf);refine ⟨true, h, Sub.eq rfl ?_ ?_⟩
                ·(repeat ((conv=>whnf);refine nr ?_));exact trivial
                ·(conv=>whnf);refine no ?_;exact trivial
              ·replace h := ite_tW hc83 h;(conv=>whnf);refine ⟨true, h, Sub.eq rfl ?_ ?_⟩
               ·(repeat ((conv=>whnf);refine nr ?_));exact trivial
               ·(conv=>whnf);refine no ?_;exact trivial
             ·replace h := ite_tW hc82 h;(conv=>whnf);refine ⟨true, h, Sub.eq rfl ?_ ?_⟩
              ·(repeat ((conv=>whnf);refine nr ?_));exact trivial
              ·(conv=>whnf);refine no ?_;exact trivial
            ·replace h := ite_tW hc81 h;(conv=>whnf);refine ⟨true, h, Sub.eq rfl ?_ ?_⟩
             ·(repeat ((conv=>whnf);refine nr ?_));exact trivial
             ·(conv=>whnf);refine no ?_;exact trivial
           ·replace h := ite_tW hc80 h;(conv=>whnf);refine ⟨true, h, Sub.eq rfl ?_ ?_⟩
            ·(repeat ((conv=>whnf);refine nr ?_));exact trivial
            ·(conv=>whnf);refine no ?_;exact trivial
          ·replace h := ite_tW hc79 h;(conv=>whnf);refine ⟨true, h, Sub.eq rfl ?_ ?_⟩
           ·(repeat ((conv=>whnf);refine nr ?_));exact trivial
           ·(conv=>whnf);refine no ?_;exact trivial
         ·replace h := ite_tW hc78 h;(conv=>whnf);refine ⟨true, h, Sub.eq rfl ?_ ?_⟩
          ·(repeat ((conv=>whnf);refine nr ?_));exact trivial
          ·(conv=>whnf);refine no ?_;exact trivial
        ·replace h := ite_tW hc77 h;(conv=>whnf);refine ⟨true, h, Sub.eq rfl ?_ ?_⟩
         ·(repeat ((conv=>whnf);refine nr ?_));exact trivial
         ·(conv=>whnf);refine no ?_;exact trivial
       ·replace h := ite_tW hc76 h;(conv=>whnf);refine ⟨true, h, Sub.eq rfl ?_ ?_⟩
        ·(repeat ((conv=>whnf);refine nr ?_));exact trivial
        ·(conv=>whnf);refine no ?_;exact trivial
      ·replace h := ite_tW hc75 h;(conv=>whnf);refine ⟨true, h, Sub.eq rfl ?_ ?_⟩
       ·(repeat ((conv=>whnf);refine nr ?_));exact trivial
       ·(conv=>whnf);refine no ?_;exact trivial
     ·replace h := ite_tW hc74 h;(conv=>whnf);refine ⟨true, h, Sub.eq rfl ?_ ?_⟩
      ·(repeat ((conv=>whnf);refine nr ?_));exact trivial
      ·(conv=>whnf);refine no ?_;exact trivial
    ·replace h := ite_tW hc73 h;(conv=>whnf);refine ⟨true, h, Sub.eq rfl ?_ ?_⟩
     ·(repeat ((conv=>whnf);refine nr ?_));exact trivial
     ·(conv=>whnf);refine no ?_;exact trivial
   ·replace h := ite_tW hc72 h;(conv=>whnf);refine ⟨true, h, Sub.eq rfl ?_ ?_⟩
    ·(repeat ((conv=>whnf);refine nr ?_));exact trivial
    ·(conv=>whnf);refine no ?_;exact trivial
  ·clear h;rintro v2 h;unfold law09LadderNames_k2 at h;(conv=>whnf);refine Br.mk (fun hc47 => ?_) (fun hc47 => ?_)
   ·replace h := ite_tW hc47 h;(conv=>whnf);have hv : Q _ := h;exact ⟨[], ⟨_, hv, rfl, rfl⟩, fun _ hq => nomatch hq⟩
   ·replace h := ite_fW hc47 h;(conv=>whnf);refine sr ?_;(conv=>whnf);intro b4;(conv=>whnf);refine sr ?_;(conv=>whnf);intro hd34;(conv=>whnf);refine sr ?_;obtain ⟨l2, hx57, h⟩ := bindO_el h;(conv=>whnf);refine sr ?_;(conv=>whnf);refine Side.mk ⟨rfl, rfl, rfl⟩ (Need.mk (app_need hN hx57 (by decide)) (Eqv.mk (List.map LadderResult.enc l2) (app_map _ hx57) ?_));(conv=>whnf);intro hd35;(conv=>whnf);refine sr ?_;(conv=>whnf);refine sr ?_;obtain ⟨x14, hx59, h⟩ := bindO_el h;(conv=>whnf);refine Side.mk ⟨rfl, rfl⟩ (Need.mk (idx_need _ hx59) ?_);(conv=>whnf);refine Side.mk ⟨rfl, rfl⟩ ⟨_, Int.natCast_nonneg _, idx_el _ hx59, ?_⟩;(conv=>whnf);refine Eqv.mk (List.map LadderResult.enc (List.set l2 (Int.toNat 0) (LadderResult.mk x14.fMatch x14.fGames true))) (set_map _ _ _ _ rfl) ?_;obtain ⟨r35, hx62, h⟩ := bindO_el h;(conv=>whnf);refine CallG.pure _ (law09FiveC hN hx62) ?_
    obtain ⟨⟨ra12, rb12⟩, hx63, h⟩ := bindO_el h;(conv=>whnf);refine CallG.pure _ (ladderWinnerXC hN hx63) ?_;(conv=>whnf);refine sr ?_;obtain ⟨⟨ra14, rb14⟩, hx65, h⟩ := bindO_el h;(conv=>whnf);refine sr ?_;(conv=>whnf);refine CallG.pure _ (ladderWinnerXC hN hx65) ?_;(conv=>whnf);refine sr ?_;obtain ⟨⟨ra16, rb16⟩, hx67, h⟩ := bindO_el h;(conv=>whnf);refine CallG.pure _ (ladderUpsetsC hN hx67) ?_;(conv=>whnf);refine sr ?_;(conv=>whnf);refine CallG.ex (fun x : (List Int) × Int => .d (.tup [.list 1 (List.map I x.1), I x.2])) _ (ladderWayC hN h) ?_;clear h;rintro ⟨ra18, rb18⟩ h;obtain ⟨r42, hx74, h⟩ := bindO_el h;(conv=>whnf);refine CallG.pure _ (law09FiveC hN hx74) ?_;obtain ⟨r43, hx75, h⟩ := bindO_el h;(conv=>whnf);refine CallG.pure _ (law09ResultC hN hx75) ?_;(conv=>whnf);intro hd40;obtain ⟨r44, hx76, h⟩ := bindO_el h;(conv=>whnf);refine sr ?_;(conv=>whnf)
    refine CallG.pure _ (law09FiveC hN hx76) ?_;(conv=>whnf);intro hd41;obtain ⟨r45, hx77, h⟩ := bindO_el h;(conv=>whnf);refine sr ?_;(conv=>whnf);refine CallG.pure _ (law09ResultC hN hx77) ?_;(conv=>whnf);intro hd42;obtain ⟨r46, hx78, h⟩ := bindO_el h;(conv=>whnf);refine sr ?_;(conv=>whnf);refine CallG.pure _ (law09ResultC hN hx78) ?_;(conv=>whnf);intro hd43;obtain ⟨r47, hx79, h⟩ := bindO_el h;(conv=>whnf);refine sr ?_;(conv=>whnf);refine CallG.pure _ (law09FiveC hN hx79) ?_;(conv=>whnf);intro b8;(conv=>whnf);intro b9;(conv=>whnf);intro b10;(conv=>whnf);refine sr ?_;(conv=>whnf);refine sr ?_;(conv=>whnf);refine sr ?_;obtain ⟨l4, hx81, h⟩ := bindO_el h;(conv=>whnf);refine Need.mk (mkl_need hN hx81 (by decide)) (Eqv.mk (List.map LadderResult.enc l4) (mkl_map _ hx81 rfl) ?_);(conv=>whnf);intro hd45;(conv=>whnf);refine sr ?_;obtain ⟨⟨ra20, rb20⟩, hx83, h⟩ := bindO_el h;(conv=>whnf)
    refine CallG.pure _ (ladderTreeC hN hx83) ?_;(conv=>whnf);refine SeqG.mk Bool (fun y => [(0, .d (.bool y))]) (fun y => []) (fun y => law09LadderNames_k1 N y Q) ?_ ?_
    ·(conv=>whnf);refine Br.mk (fun hc60 => ?_) (fun hc60 => ?_)
     ·replace h := ite_tW hc60 h;(conv=>whnf);refine Br.mk (fun hc61 => ?_) (fun hc61 => ?_)
      ·replace h := ite_tW hc61 h;(conv=>whnf);refine Br.mk (fun hc62 => ?_) (fun hc62 => ?_)
       ·replace h := ite_tW hc62 h;(conv=>whnf);refine Br.mk (fun hc63 => ?_) (fun hc63 => ?_)
        ·replace h := ite_tW hc63 h;(conv=>whnf);refine Br.mk (fun hc64 => ?_) (fun hc64 => ?_)
         ·replace h := ite_tW hc64 h;(conv=>whnf);refine sr ?_;obtain ⟨r64, hx100, h⟩ := bindO_el h;(conv=>whnf);refine sr ?_;(conv=>whnf);refine CallG.pure _ (ladderCheckCupC hN hx100) ?_;(conv=>whnf);refine Br.mk (fun hc65 => ?_) (fun hc65 => ?_)
          ·replace h := ite_tW hc65 h;(conv=>whnf);refine sr ?_;obtain ⟨r65, hx101, h⟩ := bindO_el h;(conv=>whnf);refine CallG.pure _ (ladderCheckCupC hN hx101) ?_;(conv=>whnf);refine Br.mk (fun hc66 => ?_) (fun hc66 => ?_)
           ·replace h := ite_tW hc66 h;(conv=>whnf);refine sr ?_;obtain ⟨r66, hx102, h⟩ := bindO_el h;(conv=>whnf);refine CallG.pure _ (ladderCheckCupC hN hx102) ?_;(conv=>whnf);refine Br.mk (fun hc67 => ?_) (fun hc67 => ?_)
            ·replace h := ite_tW hc67 h;(conv=>whnf);intro hd54;obtain ⟨r67, hx103, h⟩ := bindO_el h;(conv=>whnf);refine sr ?_;(conv=>whnf);refine CallG.pure _ (law09ResultC hN hx103) ?_;(conv=>whnf);intro hd55;obtain ⟨r68, hx104, h⟩ := bindO_el h;(conv=>whnf);refine sr ?_;(conv=>whnf);refine CallG.pure _ (law09FiveC hN hx104) ?_;obtain ⟨r69, hx105, h⟩ := bindO_el h;(conv=>whnf);refine CallG.pure _ (ladderCheckCupC hN hx105) ?_;(conv=>whnf);refine Br.mk (fun hc68 => ?_) (fun hc68 => ?_)
             ·replace h := ite_tW hc68 h;(conv=>whnf);intro hd56;obtain ⟨r70, hx106, h⟩ := bindO_el h;(conv=>whnf);refine sr ?_;(conv=>whnf);refine CallG.pure _ (law09ResultC hN hx106) ?_;(conv=>whnf);intro hd57;obtain ⟨r71, hx107, h⟩ := bindO_el h;(conv=>whnf);refine sr ?_;(conv=>whnf);refine CallG.pure _ (law09FiveC hN hx107) ?_;obtain ⟨r72, hx108, h⟩ := bindO_el h;(conv=>whnf);refine CallG.pure _ (ladderCheckCupC hN hx108) ?_;(conv=>whnf);refine Br.mk (fun hc69 => ?_) (fun hc69 => ?_)
              ·replace h := ite_tW hc69 h;(conv=>whnf);intro hd58;obtain ⟨r73, hx109, h⟩ := bindO_el h;(conv=>whnf);refine sr ?_;(conv=>whnf);refine CallG.pure _ (law09ResultC hN hx109) ?_;(conv=>whnf);intro hd59;obtain ⟨r74, hx110, h⟩ := bindO_el h;(conv=>whnf);refine sr ?_;(conv=>whnf);refine CallG.pure _ (law09FiveC hN hx110) ?_;obtain ⟨r75, hx111, h⟩ := bindO_el h;(conv=>whnf);refine CallG.pure _ (ladderCheckCupC hN hx111) ?_;(conv=>whnf);refine Br.mk (fun hc70 => ?_) (fun hc70 => ?_)
               ·replace h := ite_tW hc70 h;(conv=>whnf);intro hd60;obtain ⟨r76, hx112, h⟩ := bindO_el h;(conv=>whnf);refine sr ?_;(conv=>whnf);refine CallG.pure _ (law09ResultC hN hx112) ?_;(conv=>whnf);intro hd61;obtain ⟨r77, hx113, h⟩ := bindO_el h;(conv=>whnf);refine sr ?_;(conv=>whnf);refine CallG.pure _ (law09FiveC hN hx113) ?_;obtain ⟨r78, hx114, h⟩ := bindO_el h;(conv=>whnf);refine CallG.pure _ (ladderCheckCupC hN hx114) ?_;(conv=>whnf);refine Br.mk (fun hc71 => ?_) (fun hc71 => ?_)
                ·replace h := ite_tW hc71 h;obtain ⟨r79, hx115, h⟩ := bindO_el h;(conv=>whnf);refine CallG.pure _ (law09WakesC hN hx115) ?_;(conv=>whnf);refine ⟨r79, h, Sub.eq rfl ?_ ?_⟩
                 ·(repeat ((conv=>whnf);refine nr ?_));exact trivial
                 ·exact trivial
                ·replace h := ite_fW hc71 h;(conv=>whnf);refine ⟨false, h, Sub.eq rfl ?_ ?_⟩
                 ·(repeat ((conv=>whnf);refine nr ?_));exact trivial
                 ·exact trivial
               ·replace h := ite_fW hc70 h;(conv=>whnf);refine ⟨false, h, Sub.eq rfl ?_ ?_⟩
                ·(repeat ((conv=>whnf);refine nr ?_));exact trivial
                ·exact trivial
              ·replace h := ite_fW hc69 h;(conv=>whnf);refine ⟨false, h, Sub.eq rfl ?_ ?_⟩
               ·(repeat ((conv=>whnf);refine nr ?_));exact trivial
               ·exact trivial
             ·replace h := ite_fW hc68 h;(conv=>whnf);refine ⟨false, h, Sub.eq rfl ?_ ?_⟩
              ·(repeat ((conv=>whnf);refine nr ?_));exact trivial
              ·exact trivial
            ·replace h := ite_fW hc67 h;(conv=>whnf);refine ⟨false, h, Sub.eq rfl ?_ ?_⟩
             ·(repeat ((conv=>whnf);refine nr ?_));exact trivial
             ·exact trivial
           ·replace h := ite_fW hc66 h;(conv=>whnf);refine ⟨false, h, Sub.eq rfl ?_ ?_⟩
            ·(repeat ((conv=>whnf);refine nr ?_));exact trivial
            ·exact trivial
          ·replace h := ite_fW hc65 h;(conv=>whnf);refine ⟨false, h, Sub.eq rfl ?_ ?_⟩
           ·(repeat ((conv=>whnf);refine nr ?_));exact trivial
           ·exact trivial
         ·replace h := ite_fW hc64 h;(conv=>whnf);refine ⟨false, h, Sub.eq rfl ?_ ?_⟩
          ·(repeat ((conv=>whnf);refine nr ?_));exact trivial
          ·exact trivial
        ·replace h := ite_fW hc63 h;(conv=>whnf);refine ⟨false, h, Sub.eq rfl ?_ ?_⟩
         ·(repeat ((conv=>whnf);refine nr ?_));exact trivial
         ·exact trivial
       ·replace h := ite_fW hc62 h;(conv=>whnf);refine ⟨false, h, Sub.eq rfl ?_ ?_⟩
        ·(repeat ((conv=>whnf);refine nr ?_));exact trivial
        ·exact trivial
      ·replace h := ite_fW hc61 h;(conv=>whnf);refine ⟨false, h, Sub.eq rfl ?_ ?_⟩
       ·(repeat ((conv=>whnf);refine nr ?_));exact trivial
       ·exact trivial
     ·replace h := ite_fW hc60 h;(conv=>whnf);refine ⟨false, h, Sub.eq rfl ?_ ?_⟩
      ·(repeat ((conv=>whnf);refine nr ?_));exact trivial
      ·exact trivial
    ·clear h;rintro v3 h;unfold law09LadderNames_k1 at h;(conv=>whnf);have hv : Q _ := h;exact ⟨[], ⟨_, hv, rfl, rfl⟩, fun _ hq => nomatch hq⟩
end Go.Proofs.Ytbceakhnnnfiaaa
