/-
  The walk of the law DeskNames.
-/
import Derived.Test.YtiaoloodgildeaaGreatDoorDDeskNames
import Derived.Test.YtiaoloodgildeaaGreatDoorWe
import Derived.Test.YtiaoloodgildeaaGreatDoorVa
import Derived.Test.YtiaoloodgildeaaGreatDoorVd
import Derived.Test.YtiaoloodgildeaaGreatDoorVe
import Derived.Test.YtiaoloodgildeaaGreatDoorVf
import Derived.Test.YtiaoloodgildeaaGreatDoorVg
namespace Go.Proofs.YtiaoloodgildeaaGreatDoor
open Go Go.Abs Go.Kp
set_option maxRecDepth 100000
set_option maxHeartbeats 8000000
set_option linter.all false
theorem law12DeskNamesC {N : Nat} (hN : N ≤ 1073741824)  {r : Bool} (h : law12DeskNames N = some r) :
    ACalls Tryz.prog 7 [] [] fun e os => e = .ret (.d (.bool r)) ∧ os = [] := by
  refine acalls_f (fresh := false) tt_ok dr_ok ⟨[], [], [], [], [6, 8], 0, []⟩ Tryz.func7 rfl Tryz.call7 rfl ?_
  unfold law12DeskNames at h
  obtain ⟨r2, hx3, h⟩ := obind h;(conv=>whnf);refine CallG.fresh 17 (law12GameC hN hx3) ?_;intro hd2;obtain ⟨⟨ra2, rb2, rc2, rd2⟩, hx4, h⟩ := obind h;(conv=>whnf);refine sr ?_;(conv=>whnf);refine CallG.pure _ (deskBoardC hN hx4) ?_;obtain ⟨r4, hx7, h⟩ := obind h;(conv=>whnf);refine CallG.fresh 24 (law12GameC hN hx7) ?_;intro hd4;obtain ⟨⟨ra4, rb4, rc4⟩, hx8, h⟩ := obind h;(conv=>whnf);refine sr ?_;(conv=>whnf);refine CallG.pure _ (deskWorthC hN hx8) ?_;obtain ⟨r6, hx11, h⟩ := obind h;(conv=>whnf);refine CallG.fresh 30 (law12GameC hN hx11) ?_;intro hd6;obtain ⟨⟨ra6, rb6, rc6⟩, hx12, h⟩ := obind h;(conv=>whnf);refine sr ?_;(conv=>whnf);refine CallG.pure _ (deskWorthC hN hx12) ?_;obtain ⟨l2, hx15, h⟩ := obind h;(conv=>whnf);refine Need.mk (mkl_need hN hx15 (by decide)) (Eqv.mk (List.map D.str l2) (mkl_map _ hx15 rfl) ?_);(conv=>whnf);intro hd8;obtain ⟨⟨ra8, rb8⟩, hx16, h⟩ := obind h
  (conv=>whnf);refine sr ?_;(conv=>whnf);refine CallG.pure _ (deskReportC hN hx16) ?_;obtain ⟨r8, hx20, h⟩ := obind h;(conv=>whnf);refine CallG.fresh 41 (law12GameC hN hx20) ?_;intro hd12;(conv=>whnf);intro hd13;obtain ⟨l4, hx21, h⟩ := obind h;(conv=>whnf);refine Side.mk ⟨rfl, rfl⟩ ?_;(conv=>whnf);refine Side.mk ⟨rfl, rfl, rfl⟩ (Need.mk (app_need hN hx21 (by decide)) (Eqv.mk (List.map D.str l4) (app_map _ hx21) ?_));(conv=>whnf);intro hd14;obtain ⟨⟨ra10, rb10, rc8⟩, hx22, h⟩ := obind h;(conv=>whnf);refine sr ?_;(conv=>whnf);refine CallG.pure _ (deskPlayXC hN hx22) ?_;(conv=>whnf);intro b2;(conv=>whnf);refine sr ?_;obtain ⟨v4, hx36, h⟩ := obind h;(conv=>whnf);refine SeqG.mk Unit (fun y => [(104, .d (.bool v4))]) (fun y => []) (fun _ => True) ?_ ?_
  ·(conv=>whnf);refine Br.mk (fun hc29 => ?_) (fun hc29 => ?_)
   ·replace hx36 := ite_f hc29 hx36;(conv=>whnf);refine Br.mk (fun hc30 => ?_) (fun hc30 => ?_)
    ·replace hx36 := ite_f hc30 hx36;(conv=>whnf);refine Br.mk (fun hc31 => ?_) (fun hc31 => ?_)
     ·replace hx36 := ite_f hc31 hx36;(conv=>whnf);refine Br.mk (fun hc32 => ?_) (fun hc32 => ?_)
      ·replace hx36 := ite_f hc32 hx36;(conv=>whnf);refine Br.mk (fun hc33 => ?_) (fun hc33 => ?_)
       ·replace hx36 := ite_f hc33 hx36;(conv=>whnf);refine sr ?_;(conv=>whnf);refine LnA.mk _ (List.length_map _) ?_;(conv=>whnf);refine Br.mk (fun hc34 => ?_) (fun hc34 => ?_)
        ·replace hx36 := ite_f hc34 hx36;(conv=>whnf);refine sr ?_;obtain ⟨x7, hx37, hx36⟩ := obind hx36;(conv=>whnf);refine Side.mk rfl ⟨_, idx_0 hx37, idx_map _ hx37, ?_⟩;(conv=>whnf);intro hd21;obtain ⟨r15, hx38, hx36⟩ := obind hx36;(conv=>whnf);refine sr ?_;(conv=>whnf);refine CallG.pure _ (law12IntsC hN hx38) ?_;(conv=>whnf);refine Br.mk (fun hc35 => ?_) (fun hc35 => ?_)
         ·replace hx36 := ite_f hc35 hx36;(conv=>whnf);refine sr ?_;(conv=>whnf);refine LnA.mk _ (List.length_map _) ?_;(conv=>whnf);refine Br.mk (fun hc36 => ?_) (fun hc36 => ?_)
          ·replace hx36 := ite_f hc36 hx36;(conv=>whnf);refine sr ?_;obtain ⟨x8, hx39, hx36⟩ := obind hx36;(conv=>whnf);refine Side.mk rfl ⟨_, idx_0 hx39, idx_map _ hx39, ?_⟩;(conv=>whnf);refine Br.mk (fun hc37 => ?_) (fun hc37 => ?_)
           ·replace hx36 := ite_f hc37 hx36;(conv=>whnf);refine sr ?_;(conv=>whnf);refine Side.mk rfl ⟨_, idx_0 hx39, idx_map _ hx39, ?_⟩;(conv=>whnf);intro hd22;obtain ⟨r16, hx40, hx36⟩ := obind hx36;(conv=>whnf);refine sr ?_;(conv=>whnf);refine CallG.pure _ (law12IntsC hN hx40) ?_;cases hx36;(conv=>whnf);refine ⟨(), trivial, Sub.eq rfl ?_ ?_⟩
            ·(repeat ((conv=>whnf);refine nr ?_));exact trivial
            ·exact trivial
           ·replace hx36 := ite_t hc37 hx36;cases hx36;(conv=>whnf);refine ⟨(), trivial, Sub.eq rfl ?_ ?_⟩
            ·(repeat ((conv=>whnf);refine nr ?_));exact trivial
            ·exact trivial
          ·replace hx36 := ite_t hc36 hx36;cases hx36;(conv=>whnf);refine ⟨(), trivial, Sub.eq rfl ?_ ?_⟩
           ·(repeat ((conv=>whnf);refine nr ?_));exact trivial
           ·exact trivial
         ·replace hx36 := ite_t hc35 hx36;cases hx36;(conv=>whnf);refine ⟨(), trivial, Sub.eq rfl ?_ ?_⟩
          ·(repeat ((conv=>whnf);refine nr ?_));exact trivial
          ·exact trivial
        ·replace hx36 := ite_t hc34 hx36;cases hx36;(conv=>whnf);refine ⟨(), trivial, Sub.eq rfl ?_ ?_⟩
         ·(repeat ((conv=>whnf);refine nr ?_));exact trivial
         ·exact trivial
       ·replace hx36 := ite_t hc33 hx36;cases hx36;(conv=>whnf);refine ⟨(), trivial, Sub.eq rfl ?_ ?_⟩
        ·(repeat ((conv=>whnf);refine nr ?_));exact trivial
        ·exact trivial
      ·replace hx36 := ite_t hc32 hx36;cases hx36;(conv=>whnf);refine ⟨(), trivial, Sub.eq rfl ?_ ?_⟩
       ·(repeat ((conv=>whnf);refine nr ?_));exact trivial
       ·exact trivial
     ·replace hx36 := ite_t hc31 hx36;cases hx36;(conv=>whnf);refine ⟨(), trivial, Sub.eq rfl ?_ ?_⟩
      ·(repeat ((conv=>whnf);refine nr ?_));exact trivial
      ·exact trivial
    ·replace hx36 := ite_t hc30 hx36;cases hx36;(conv=>whnf);refine ⟨(), trivial, Sub.eq rfl ?_ ?_⟩
     ·(repeat ((conv=>whnf);refine nr ?_));exact trivial
     ·exact trivial
   ·replace hx36 := ite_t hc29 hx36;cases hx36;(conv=>whnf);refine ⟨(), trivial, Sub.eq rfl ?_ ?_⟩
    ·(repeat ((conv=>whnf);refine nr ?_));exact trivial
    ·exact trivial
  ·rintro _ _;(conv=>whnf);refine Br.mk (fun hc38 => ?_) (fun hc38 => ?_)
   ·replace h := ite_t hc38 h;cases h
   ·replace h := ite_f hc38 h;obtain ⟨v6, hx61, h⟩ := obind h;(conv=>whnf);refine SeqG.mk Unit (fun y => [(0, .d (.bool v6))]) (fun y => []) (fun _ => True) ?_ ?_
    ·obtain ⟨r37, hx62, hx61⟩ := obind hx61;(conv=>whnf);refine CallG.pure _ (law12ErrorOfC hN hx62) ?_;(conv=>whnf);refine Br.mk (fun hc58 => ?_) (fun hc58 => ?_)
     ·replace hx61 := ite_t hc58 hx61;obtain ⟨r38, hx63, hx61⟩ := obind hx61;(conv=>whnf);refine CallG.pure _ (law12ErrorOfC hN hx63) ?_;(conv=>whnf);refine Br.mk (fun hc59 => ?_) (fun hc59 => ?_)
      ·replace hx61 := ite_t hc59 hx61;obtain ⟨r39, hx64, hx61⟩ := obind hx61;(conv=>whnf);refine CallG.pure _ (law12ErrorOfC hN hx64) ?_;(conv=>whnf);refine Br.mk (fun hc60 => ?_) (fun hc60 => ?_)
       ·replace hx61 := ite_t hc60 hx61;obtain ⟨r40, hx65, hx61⟩ := obind hx61;(conv=>whnf);refine CallG.pure _ (law12ErrorOfC hN hx65) ?_;(conv=>whnf);refine Br.mk (fun hc61 => ?_) (fun hc61 => ?_)
        ·replace hx61 := ite_t hc61 hx61;obtain ⟨r41, hx66, hx61⟩ := obind hx61;(conv=>whnf);refine CallG.pure _ (law12ErrorOfC hN hx66) ?_;(conv=>whnf);refine Br.mk (fun hc62 => ?_) (fun hc62 => ?_)
         ·replace hx61 := ite_t hc62 hx61;obtain ⟨r42, hx67, hx61⟩ := obind hx61;(conv=>whnf);refine CallG.pure _ (law12ErrorOfC hN hx67) ?_;(conv=>whnf);refine Br.mk (fun hc63 => ?_) (fun hc63 => ?_)
          ·replace hx61 := ite_t hc63 hx61;obtain ⟨r43, hx68, hx61⟩ := obind hx61;(conv=>whnf);refine CallG.pure _ (law12ErrorOfC hN hx68) ?_;(conv=>whnf);refine Br.mk (fun hc64 => ?_) (fun hc64 => ?_)
           ·replace hx61 := ite_t hc64 hx61;obtain ⟨r44, hx69, hx61⟩ := obind hx61;(conv=>whnf);refine CallG.pure _ (law12ErrorOfC hN hx69) ?_;(conv=>whnf);refine Br.mk (fun hc65 => ?_) (fun hc65 => ?_)
            ·replace hx61 := ite_t hc65 hx61;obtain ⟨r45, hx70, hx61⟩ := obind hx61;(conv=>whnf);refine CallG.pure _ (law12ErrorOfC hN hx70) ?_;(conv=>whnf);refine Br.mk (fun hc66 => ?_) (fun hc66 => ?_)
             ·replace hx61 := ite_t hc66 hx61;obtain ⟨r46, hx71, hx61⟩ := obind hx61;(conv=>whnf);refine CallG.pure _ (law12ErrorOfC hN hx71) ?_;(conv=>whnf);refine Br.mk (fun hc67 => ?_) (fun hc67 => ?_)
              ·replace hx61 := ite_t hc67 hx61;obtain ⟨r47, hx72, hx61⟩ := obind hx61;(conv=>whnf);refine CallG.pure _ (law12ErrorOfC hN hx72) ?_;(conv=>whnf);refine Br.mk (fun hc68 => ?_) (fun hc68 => ?_)
               ·replace hx61 := ite_t hc68 hx61;obtain ⟨r48, hx73, hx61⟩ := obind hx61;(conv=>whnf);refine CallG.pure _ (law12ErrorOfC hN hx73) ?_;(conv=>whnf);refine Br.mk (fun hc69 => ?_) (fun hc69 => ?_)
                ·replace hx61 := ite_t hc69 hx61;obtain ⟨r49, hx74, hx61⟩ := obind hx61;(conv=>whnf);refine CallG.pure _ (law12ErrorOfC hN hx74) ?_;(conv=>whnf);refine Br.mk (fun hc70 => ?_) (fun hc70 => ?_)
                 ·replace hx61 := ite_t hc70 hx61;obtain ⟨r50, hx75, hx61⟩ := obind hx61;(conv=>whnf);refine CallG.pure _ (law12ErrorOfC hN hx75) ?_;(conv=>whnf);refine Br.mk (fun hc71 => ?_) (fun hc71 => ?_)
                  ·replace hx61 := ite_t hc71 hx61;obtain ⟨r51, hx76, hx61⟩ := obind hx61;(conv=>whnf);refine CallG.pure _ (law12ErrorOfC hN hx76) ?_;(conv=>whnf);refine Br.mk (fun hc72 => ?_) (fun hc72 => ?_)
                   ·replace hx61 := ite_t hc72 hx61;obtain ⟨r52, hx77, hx61⟩ := obind hx61;(conv=>whnf);refine CallG.pure _ (law12ErrorOfC hN hx77) ?_;(conv=>whnf);refine Br.mk (fun hc73 => ?_) (fun hc73 => ?_)
                    ·replace hx61 := ite_t hc73 hx61;obtain ⟨r53, hx78, hx61⟩ := obind hx61;(conv=>whnf);refine CallG.pure _ (law12ErrorOfC hN hx78) ?_;(conv=>whnf);refine Br.mk (fun hc74 => ?_) (fun hc74 => ?_)
                     ·replace hx61 := ite_t hc74 hx61;obtain ⟨r54, hx79, hx61⟩ := obind hx61;(conv=>whnf);refine CallG.pure _ (law12ErrorOfC hN hx79) ?_;(conv=>whnf);refine Br.mk (fun hc75 => ?_) (fun hc75 => ?_)
                      ·replace hx61 := ite_t hc75 hx61;obtain ⟨r55, hx80, hx61⟩ := obind hx61;(conv=>whnf);refine CallG.pure _ (law12ErrorOfC hN hx80) ?_;(conv=>whnf);refine Br.mk (fun hc76 => ?_) (fun hc76 => ?_)
                       ·replace hx61 := ite_t hc76 hx61;obtain ⟨r56, hx81, hx61⟩ := obind hx61;(conv=>whnf);refine CallG.pure _ (law12WakesC hN hx81) ?_;cases hx61;(conv=>whnf);refine ⟨(), trivial, Sub.eq rfl ?_ ?_⟩
                        ·(repeat ((conv=>whnf);refine nr ?_));exact trivial
                        ·exact trivial
                       ·replace hx61 := ite_f hc76 hx61;cases hx61;(conv=>whnf);refine ⟨(), trivial, Sub.eq rfl ?_ ?_⟩
                        ·(repeat ((conv=>whnf);refine nr ?_));exact trivial
                        ·exact trivial
                      ·replace hx61 := ite_f hc75 hx61;cases hx61;(conv=>whnf);refine ⟨(), trivial, Sub.eq rfl ?_ ?_⟩
                       ·(repeat ((conv=>whnf);refine nr ?_));exact trivial
                       ·exact trivial
                     ·replace hx61 := ite_f hc74 hx61;cases hx61;(conv=>whnf);refine ⟨(), trivial, Sub.eq rfl ?_ ?_⟩
                      ·(repeat ((conv=>whnf);refine nr ?_));exact trivial
                      ·exact trivial
                    ·replace hx61 := ite_f hc73 hx61;cases hx61;(conv=>whnf);refine ⟨(), trivial, Sub.eq rfl ?_ ?_⟩
                     ·(repeat ((conv=>whnf);refine nr ?_));exact trivial
                     ·exact trivial
                   ·replace hx61 := ite_f hc72 hx61;cases hx61;(conv=>whnf);refine ⟨(), trivial, Sub.eq rfl ?_ ?_⟩
                    ·(repeat ((conv=>whnf);refine nr ?_));exact trivial
                    ·exact trivial
                  ·replace hx61 := ite_f hc71 hx61;cases hx61;(conv=>whnf);refine ⟨(), trivial, Sub.eq rfl ?_ ?_⟩
                   ·(repeat ((conv=>whnf);refine nr ?_));exact trivial
                   ·exact trivial
                 ·replace hx61 := ite_f hc70 hx61;cases hx61;(conv=>whnf);refine ⟨(), trivial, Sub.eq rfl ?_ ?_⟩
                  ·(repeat ((conv=>whnf);refine nr ?_));exact trivial
                  ·exact trivial
                ·replace hx61 := ite_f hc69 hx61;cases hx61;(conv=>whnf);refine ⟨(), trivial, Sub.eq rfl ?_ ?_⟩
                 ·(repeat ((conv=>whnf);refine nr ?_));exact trivial
                 ·exact trivial
               ·replace hx61 := ite_f hc68 hx61;cases hx61;(conv=>whnf);refine ⟨(), trivial, Sub.eq rfl ?_ ?_⟩
                ·(repeat ((conv=>whnf);refine nr ?_));exact trivial
                ·exact trivial
              ·replace hx61 := ite_f hc67 hx61;cases hx61;(conv=>whnf);refine ⟨(), trivial, Sub.eq rfl ?_ ?_⟩
               ·(repeat ((conv=>whnf);refine nr ?_));exact trivial
               ·exact trivial
             ·replace hx61 := ite_f hc66 hx61;cases hx61;(conv=>whnf);refine ⟨(), trivial, Sub.eq rfl ?_ ?_⟩
              ·(repeat ((conv=>whnf);refine nr ?_));exact trivial
              ·exact trivial
            ·replace hx61 := ite_f hc65 hx61;cases hx61;(conv=>whnf);refine ⟨(), trivial, Sub.eq rfl ?_ ?_⟩
             ·(repeat ((conv=>whnf);refine nr ?_));exact trivial
             ·exact trivial
           ·replace hx61 := ite_f hc64 hx61;cases hx61;(conv=>whnf);refine ⟨(), trivial, Sub.eq rfl ?_ ?_⟩
            ·(repeat ((conv=>whnf);refine nr ?_));exact trivial
            ·exact trivial
          ·replace hx61 := ite_f hc63 hx61;cases hx61;(conv=>whnf);refine ⟨(), trivial, Sub.eq rfl ?_ ?_⟩
           ·(repeat ((conv=>whnf);refine nr ?_));exact trivial
           ·exact trivial
         ·replace hx61 := ite_f hc62 hx61;cases hx61;(conv=>whnf);refine ⟨(), trivial, Sub.eq rfl ?_ ?_⟩
          ·(repeat ((conv=>whnf);refine nr ?_));exact trivial
          ·exact trivial
        ·replace hx61 := ite_f hc61 hx61;cases hx61;(conv=>whnf);refine ⟨(), trivial, Sub.eq rfl ?_ ?_⟩
         ·(repeat ((conv=>whnf);refine nr ?_));exact trivial
         ·exact trivial
       ·replace hx61 := ite_f hc60 hx61;cases hx61;(conv=>whnf);refine ⟨(), trivial, Sub.eq rfl ?_ ?_⟩
        ·(repeat ((conv=>whnf);refine nr ?_));exact trivial
        ·exact trivial
      ·replace hx61 := ite_f hc59 hx61;cases hx61;(conv=>whnf);refine ⟨(), trivial, Sub.eq rfl ?_ ?_⟩
       ·(repeat ((conv=>whnf);refine nr ?_));exact trivial
       ·exact trivial
     ·replace hx61 := ite_f hc58 hx61;cases hx61;(conv=>whnf);refine ⟨(), trivial, Sub.eq rfl ?_ ?_⟩
      ·(repeat ((conv=>whnf);refine nr ?_));exact trivial
      ·exact trivial
    ·rintro _ _;(conv=>whnf);cases h;exact rfl
end Go.Proofs.YtiaoloodgildeaaGreatDoor
