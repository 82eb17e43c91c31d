/-
  Walks: what the typed functions compute, the program’s functions return.
-/
import Derived.Test.YtbceakhnnnfiaaaWe
import Derived.Test.YtbceakhnnnfiaaaVa
import Derived.Test.YtbceakhnnnfiaaaVb
namespace Go.Proofs.Ytbceakhnnnfiaaa
open Go Go.Abs Go.Kp
set_option maxRecDepth 100000
set_option maxHeartbeats 8000000
set_option linter.all false

theorem ladderProveWayC {N : Nat} (hN : N ≤ 1073741824) {c1 : LadderCup} {winners1 : List Int} {upsets1 : Int} {r : Bool} (h : ladderProveWay N c1 winners1 upsets1 = some r) :
    ACalls Try.prog 46 [.d (.agg [.int .u8 c1.fForm, I c1.fPlayers, I c1.fGames, .list 3 (List.map LadderResult.enc c1.fResults)]), .d (.list 1 (List.map I winners1)), .d (I upsets1)] [] fun e os => e = .ret (.d (.bool r)) ∧ os = [] := by
  refine acalls_f (fresh := false) tt_ok dr_ok ⟨[3], [], [], [], [2, 18, 20, 1005, 1007, 1011], 0, [12]⟩ Try.func46 rfl Try.call46 rfl ?_
  unfold ladderProveWay at h
  obtain ⟨z2, hx2, h⟩ := obind h;rcases z2 with r2 | ⟨ra2, rb2, rc2, rd2, re2, rf2, rg2, rh2⟩
  ·(conv=>whnf);refine CallG.own (ladderCupDrawC hN hx2) id [] _ (fun y => []) (all2_le_refl _) trivial rfl trivial trivial (fun _ => AV.le_refl _) (fun _ => rfl) ?_;rintro _ _;obtain ⟨_, hx4, h⟩ := obind h;(conv=>whnf);refine SeqG.mk Unit (fun y => [(1, .d (.list 1 (List.map I winners1))), (2, .d (I upsets1)), (7, .d .nilptr), (34, .b true)]) (fun y => []) (fun _ => True) ?_ ?_
   ·(conv=>whnf);refine Br.mk (fun hc4 => ?_) (fun hc4 => ?_)
    ·replace hx4 := ite_f hc4 hx4;(conv=>whnf);refine LnA.mk _ (List.length_map _) ?_;cases hx4
    ·replace hx4 := ite_t hc4 hx4;(conv=>whnf);refine ⟨(), trivial, Sub.eq rfl ?_ ?_⟩
     ·(repeat ((conv=>whnf);refine nr ?_));exact trivial
     ·exact trivial
   ·rintro _ _;(conv=>whnf);cases h;exact rfl
  ·(conv=>whnf);refine CallG.own (ladderCupDrawC hN hx2) id [] _ (fun y => [(265040, .cells y.1 [.d (.int .u8 rb2), .d (I rc2), .d (I rd2), .d (.list 3 (List.map LadderResult.enc re2)), .d (.list 4 (List.map LadderPair.enc rf2)), .mp 265038 y.2.1, .sl 1400055 y.2.2]), (265038, .map y.2.1 (List.map (fun p => (I p.1, .agg [I p.2.fMatch, .list 1 (List.map I p.2.fGames), .bool p.2.fProtested])) rg2)), (1400055, .arr y.2.2 70 2 false (List.map (fun x => .agg [I x.a0, I x.a1]) rh2))]) (all2_le_refl _) trivial rfl trivial trivial (fun _ => AV.le_refl _) (fun _ => rfl) ?_;rintro ⟨b3, b4, hd2⟩ _;obtain ⟨v2, hx6, h⟩ := obind h;(conv=>whnf)
   refine SeqG.mk Unit (fun y => [(1, .d (.list 1 (List.map I winners1))), (2, .d (I upsets1)), (7, .ptr 265040 b3 0), (34, .d (.bool v2))]) (fun y => [(265040, .cells b3 [.d (.int .u8 rb2), .d (I rc2), .d (I rd2), .d (.list 3 (List.map LadderResult.enc re2)), .d (.list 4 (List.map LadderPair.enc rf2)), .mp 265038 b4, .sl 1400055 hd2]), (265038, .map b4 (List.map (fun p => (I p.1, .agg [I p.2.fMatch, .list 1 (List.map I p.2.fGames), .bool p.2.fProtested])) rg2)), (1400055, .arr hd2 70 2 false (List.map (fun x => .agg [I x.a0, I x.a1]) rh2))]) (fun _ => True) ?_ ?_
   ·(conv=>whnf);refine Br.mk (fun hc9 => ?_) (fun hc9 => ?_)
    ·replace hx6 := ite_f hc9 hx6;(conv=>whnf);refine LnA.mk _ (List.length_map _) ?_;(conv=>whnf);refine sr ?_;(conv=>whnf);refine LnA.mk _ (List.length_map _) ?_;cases hx6;(conv=>whnf);refine ⟨(), trivial, Sub.eq rfl ?_ ?_⟩
     ·(repeat ((conv=>whnf);refine nr ?_));exact trivial
     ·(conv=>whnf);refine no ?_;(conv=>whnf);refine no ?_;(conv=>whnf);refine no ?_;exact trivial
    ·replace hx6 := ite_t hc9 hx6;cases hx6;(conv=>whnf);refine ⟨(), trivial, Sub.eq rfl ?_ ?_⟩
     ·(repeat ((conv=>whnf);refine nr ?_));exact trivial
     ·(conv=>whnf);refine no ?_;(conv=>whnf);refine no ?_;(conv=>whnf);refine no ?_;exact trivial
   ·rintro _ _;(conv=>whnf);refine Br.mk (fun hc10 => ?_) (fun hc10 => ?_)
    ·replace h := ite_t hc10 h;(conv=>whnf);cases h;exact rfl
    ·replace h := ite_f hc10 h;(conv=>whnf);refine SeqG.mk Int (fun y => [(2, .d (I upsets1)), (9, .d (I y))]) (fun y => []) (fun y => ladderProveWay_k1 N upsets1 y = some r) ?_ ?_
     ·(conv=>whnf);refine sr ?_;(conv=>whnf);refine LnA.mk _ (List.length_map _) ?_;(conv=>whnf)
      refine LoopG.mk (Nat × (Int × Int × Int)) (fun y => [(1, .d (.list 1 (List.map I winners1))), (2, .d (I upsets1)), (7, .ptr 265040 b3 0), (9, .d (I y.2.1)), (38, .d (.list 4 (List.map LadderPair.enc rf2))), (39, .d (I y.2.2.1)), (40, .d (I y.2.2.2))]) (fun y => [(265040, .cells b3 [.d (.int .u8 rb2), .d (I rc2), .d (I rd2), .d (.list 3 (List.map LadderResult.enc re2)), .d (.list 4 (List.map LadderPair.enc rf2)), .mp 265038 b4, .sl 1400055 hd2]), (265038, .map b4 (List.map (fun p => (I p.1, .agg [I p.2.fMatch, .list 1 (List.map I p.2.fGames), .bool p.2.fProtested])) rg2)), (1400055, .arr hd2 70 2 false (List.map (fun x => .agg [I x.a0, I x.a1]) rh2))]) (fun y => loopN (fun rr x => ladderProveWay_b3 N winners1 upsets1 rb2 rc2 rd2 re2 rf2 rg2 rh2 rr x.1 x.2.1 x.2.2) y.1 y.2 = some r) (fun y => y.1) (N, (0, (rf2.length : Int), 0)) h (Sub.eq rfl ?_ ?_) ?_
      ·(repeat ((conv=>whnf);refine nr ?_));exact trivial
      ·(conv=>whnf);refine no ?_;(conv=>whnf);refine no ?_;(conv=>whnf);refine no ?_;exact trivial
      ·rintro ⟨n2, ⟨many14, v49, v50⟩⟩ hl2;obtain ⟨n2, rfl, hl2⟩ := loopN_some hl2;replace hl2 : ladderProveWay_b3 N winners1 upsets1 rb2 rc2 rd2 re2 rf2 rg2 rh2 (loopN (fun rr x => ladderProveWay_b3 N winners1 upsets1 rb2 rc2 rd2 re2 rf2 rg2 rh2 rr x.1 x.2.1 x.2.2) n2) many14 v49 v50 = some r := hl2;rw [ladderProveWay_b3] at hl2;(conv=>whnf);refine Br.mk (fun hc232 => ?_) (fun hc232 => ?_)
       ·replace hl2 := ite_t hc232 hl2;(conv=>whnf);refine SeqG.mk Int (fun y => [(1, .d (.list 1 (List.map I winners1))), (2, .d (I upsets1)), (7, .ptr 265040 b3 0), (9, .d (I y)), (38, .d (.list 4 (List.map LadderPair.enc rf2))), (39, .d (I v49)), (40, .d (I v50))]) (fun y => [(265040, .cells b3 [.d (.int .u8 rb2), .d (I rc2), .d (I rd2), .d (.list 3 (List.map LadderResult.enc re2)), .d (.list 4 (List.map LadderPair.enc rf2)), .mp 265038 b4, .sl 1400055 hd2]), (265038, .map b4 (List.map (fun p => (I p.1, .agg [I p.2.fMatch, .list 1 (List.map I p.2.fGames), .bool p.2.fProtested])) rg2)), (1400055, .arr hd2 70 2 false (List.map (fun x => .agg [I x.a0, I x.a1]) rh2))]) (fun y => ladderProveWay_k2 N v49 v50 (loopN (fun rr x => ladderProveWay_b3 N winners1 upsets1 rb2 rc2 rd2 re2 rf2 rg2 rh2 rr x.1 x.2.1 x.2.2) n2) y = some r) ?_ ?_
        ·obtain ⟨x134, hx503, hl2⟩ := obind hl2;(conv=>whnf);refine Side.mk rfl ⟨_, idx_0 hx503, idx_map _ hx503, ?_⟩;(conv=>whnf);intro b402;(conv=>whnf);refine sr ?_;(conv=>whnf);intro b404;obtain ⟨_, hx521, hl2⟩ := obind hl2;(conv=>whnf);refine CallG.pure _ (ladderSidesC hN hx521) ?_;(conv=>whnf);refine LoopG.unr 3 ?_;obtain ⟨p47, hx525, hl2⟩ := obind hl2;(conv=>whnf)
         refine SeqG.mk Unit (fun y => [(1, .d (.list 1 (List.map I winners1))), (2, .d (I upsets1)), (7, .ptr 265040 b3 0), (9, .d (I many14)), (10, .d (I v50)), (11, .ptr 11 b402 0), (12, .ptr 12 b404 0), (38, .d (.list 4 (List.map LadderPair.enc rf2))), (39, .d (I v49)), (40, .d (I v50)), (45, .d (.agg [.fn (.func 87) [] [], .fn (.func 88) [] []])), (46, .i .i64 0)]) (fun y => [(265040, .cells b3 [.d (.int .u8 rb2), .d (I rc2), .d (I rd2), .d (.list 3 (List.map LadderResult.enc re2)), .d (.list 4 (List.map LadderPair.enc rf2)), .mp 265038 b4, .sl 1400055 hd2]), (11, .cells b402 [.d (I x134.fFirst.fPlayer), .d (I x134.fFirst.fMatch), .d (I x134.fSecond.fPlayer), .d (I x134.fSecond.fMatch)]), (12, .cells b404 [.d (I p47.a0), .d (I p47.a1)]), (265038, .map b4 (List.map (fun p => (I p.1, .agg [I p.2.fMatch, .list 1 (List.map I p.2.fGames), .bool p.2.fProtested])) rg2)), (1400055, .arr hd2 70 2 false (List.map (fun x => .agg [I x.a0, I x.a1]) rh2))]) (fun _ => True) ?_ ?_
         ·(conv=>whnf);refine IxG.mk 0 rfl (by decide) ?_;(conv=>whnf);intro b426;(conv=>whnf);refine sr ?_;(conv=>whnf);refine sr ?_;(conv=>whnf);refine sr ?_;obtain ⟨r256, hx527, hx525⟩ := obind hx525;(conv=>whnf);refine CallG.pure _ (ladderPairFirstC hN hx527) ?_;(conv=>whnf);intro b428;(conv=>whnf);refine sr ?_;(conv=>whnf);refine sr ?_;(conv=>whnf);refine Br.mk (fun hc259 => ?_) (fun hc259 => ?_)
          ·replace hx525 := ite_t hc259 hx525;(conv=>whnf);refine sr ?_;(conv=>whnf);refine IxG.mk 0 rfl (by decide) ?_;(conv=>whnf);refine sr ?_;cases hx525;(conv=>whnf);refine ⟨(), trivial, Sub.eq rfl ?_ ?_⟩
           ·(repeat ((conv=>whnf);refine nr ?_));exact trivial
           ·(conv=>whnf);refine no ?_;(conv=>whnf);refine no ?_;(conv=>whnf);refine no ?_;(conv=>whnf);refine no ?_;(conv=>whnf);refine no ?_;exact trivial
          ·replace hx525 := ite_f hc259 hx525;(conv=>whnf);refine sr ?_;obtain ⟨x140, hx528, hx525⟩ := obind hx525;(conv=>whnf);refine Side.mk rfl ⟨_, idx_0 hx528, idx_map _ hx528, ?_⟩;(conv=>whnf);refine IxG.mk 0 rfl (by decide) ?_;(conv=>whnf);refine sr ?_;cases hx525;(conv=>whnf);refine ⟨(), trivial, Sub.eq rfl ?_ ?_⟩
           ·(repeat ((conv=>whnf);refine nr ?_));exact trivial
           ·(conv=>whnf);refine no ?_;(conv=>whnf);refine no ?_;(conv=>whnf);refine no ?_;(conv=>whnf);refine no ?_;(conv=>whnf);refine no ?_;exact trivial
         ·rintro _ _;obtain ⟨p48, hx532, hl2⟩ := obind hl2;(conv=>whnf)
          refine SeqG.mk Unit (fun y => [(1, .d (.list 1 (List.map I winners1))), (2, .d (I upsets1)), (7, .ptr 265040 b3 0), (9, .d (I many14)), (10, .d (I v50)), (11, .ptr 11 b402 0), (12, .ptr 12 b404 0), (38, .d (.list 4 (List.map LadderPair.enc rf2))), (39, .d (I v49)), (40, .d (I v50)), (45, .d (.agg [.fn (.func 87) [] [], .fn (.func 88) [] []])), (46, .i .i64 1)]) (fun y => [(265040, .cells b3 [.d (.int .u8 rb2), .d (I rc2), .d (I rd2), .d (.list 3 (List.map LadderResult.enc re2)), .d (.list 4 (List.map LadderPair.enc rf2)), .mp 265038 b4, .sl 1400055 hd2]), (11, .cells b402 [.d (I x134.fFirst.fPlayer), .d (I x134.fFirst.fMatch), .d (I x134.fSecond.fPlayer), .d (I x134.fSecond.fMatch)]), (12, .cells b404 [.d (I p48.a0), .d (I p48.a1)]), (265038, .map b4 (List.map (fun p => (I p.1, .agg [I p.2.fMatch, .list 1 (List.map I p.2.fGames), .bool p.2.fProtested])) rg2)), (1400055, .arr hd2 70 2 false (List.map (fun x => .agg [I x.a0, I x.a1]) rh2))]) (fun _ => True) ?_ ?_
          ·(conv=>whnf);refine IxG.mk 1 rfl (by decide) ?_;(conv=>whnf);intro b434;(conv=>whnf);refine sr ?_;(conv=>whnf);refine sr ?_;(conv=>whnf);refine sr ?_;obtain ⟨r260, hx534, hx532⟩ := obind hx532;(conv=>whnf);refine CallG.pure _ (ladderPairSecondC hN hx534) ?_;(conv=>whnf);intro b436;(conv=>whnf);refine sr ?_;(conv=>whnf);refine sr ?_;(conv=>whnf);refine Br.mk (fun hc261 => ?_) (fun hc261 => ?_)
           ·replace hx532 := ite_t hc261 hx532;(conv=>whnf);refine sr ?_;(conv=>whnf);refine IxG.mk 1 rfl (by decide) ?_;(conv=>whnf);refine sr ?_;cases hx532;(conv=>whnf);refine ⟨(), trivial, Sub.eq rfl ?_ ?_⟩
            ·(repeat ((conv=>whnf);refine nr ?_));exact trivial
            ·(conv=>whnf);refine no ?_;(conv=>whnf);refine no ?_;(conv=>whnf);refine no ?_;(conv=>whnf);refine no ?_;(conv=>whnf);refine no ?_;exact trivial
           ·replace hx532 := ite_f hc261 hx532;(conv=>whnf);refine sr ?_;obtain ⟨x142, hx535, hx532⟩ := obind hx532;(conv=>whnf);refine Side.mk rfl ⟨_, idx_0 hx535, idx_map _ hx535, ?_⟩;(conv=>whnf);refine IxG.mk 1 rfl (by decide) ?_;(conv=>whnf);refine sr ?_;cases hx532;(conv=>whnf);refine ⟨(), trivial, Sub.eq rfl ?_ ?_⟩
            ·(repeat ((conv=>whnf);refine nr ?_));exact trivial
            ·(conv=>whnf);refine no ?_;(conv=>whnf);refine no ?_;(conv=>whnf);refine no ?_;(conv=>whnf);refine no ?_;(conv=>whnf);refine no ?_;exact trivial
          ·rintro _ _;obtain ⟨x144, hx538, hl2⟩ := obind hl2;obtain ⟨r262, hx539, hl2⟩ := obind hl2;(conv=>whnf);refine DrawG.mk (.take 0 (.take 1 (.take 2 (.take 3 (.take 4 (.take 5 (.take 6 (.take 7 (.take 8 (.take 9 (.alt 10 [8, 6, 3, 2, 1, 0] (.take 11 (.take 12 .done)) .nil))))))))))) (by kernel_rfl) ?_;(conv=>whnf);refine Side.mk rfl ⟨_, idx_0 hx538, idx_map _ hx538, ?_⟩;(conv=>whnf);refine IxG.mk 0 rfl (by decide) ?_;(conv=>whnf);refine sr ?_;(conv=>whnf);refine IxG.mk 1 rfl (by decide) ?_;(conv=>whnf);refine sr ?_;(conv=>whnf);refine Both.mk ?_ trivial;(conv=>whnf)
           refine CallG.own (ladderDrawSettledC (bo1 := b3) (bo2 := b4) (ho1 := hd2) hN hx539) id [(11, .cells b402 [.d (I x134.fFirst.fPlayer), .d (I x134.fFirst.fMatch), .d (I x134.fSecond.fPlayer), .d (I x134.fSecond.fMatch)]), (12, .cells b404 [.d (I p48.a0), .d (I p48.a1)])] _ (fun y => [(265040, .cells b3 [.d (.int .u8 rb2), .d (I rc2), .d (I rd2), .d (.list 3 (List.map LadderResult.enc re2)), .d (.list 4 (List.map LadderPair.enc rf2)), .mp 265038 b4, .sl 1400055 hd2]), (265038, .map b4 (List.map (fun p => (I p.1, .agg [I p.2.fMatch, .list 1 (List.map I p.2.fGames), .bool p.2.fProtested])) rg2)), (1400055, .arr hd2 70 2 false (List.map (fun x => .agg [I x.a0, I x.a1]) rh2)), (11, .cells b402 [.d (I x134.fFirst.fPlayer), .d (I x134.fFirst.fMatch), .d (I x134.fSecond.fPlayer), .d (I x134.fSecond.fMatch)]), (12, .cells b404 [.d (I p48.a0), .d (I p48.a1)])]) (all2_le_refl _) (And.intro rfl (And.intro rfl (And.intro rfl trivial))) rfl (And.intro rfl (And.intro rfl (And.intro rfl trivial))) (And.intro rfl (And.intro rfl trivial)) (fun _ => AV.le_refl _) (fun _ => rfl) ?_
           rintro _ _;(conv=>whnf);refine IxG.mk 1 rfl (by decide) ?_;(conv=>whnf);refine nl ?_;(conv=>whnf);refine IxG.mk 0 rfl (by decide) ?_;(conv=>whnf);refine nl ?_;(conv=>whnf);refine nl ?_;(conv=>whnf);refine Side.mk rfl ⟨_, idx_0 hx538, idx_map _ hx538, ?_⟩;(conv=>whnf);refine nl ?_;(conv=>whnf);refine nl ?_;(conv=>whnf);refine nl ?_;obtain ⟨v55, hx544, hl2⟩ := obind hl2;(conv=>whnf)
           refine SeqG.mk Unit (fun y => [(1, .d (.list 1 (List.map I winners1))), (2, .d (I upsets1)), (7, .ptr 265040 b3 0), (9, .d (I many14)), (12, .d (.ref (.agg [I p48.a0, I p48.a1]))), (16, .d (I x144)), (17, .d (I r262)), (38, .d (.list 4 (List.map LadderPair.enc rf2))), (39, .d (I v49)), (40, .d (I v50)), (92, .d (.bool v55))]) (fun y => [(265040, .cells b3 [.d (.int .u8 rb2), .d (I rc2), .d (I rd2), .d (.list 3 (List.map LadderResult.enc re2)), .d (.list 4 (List.map LadderPair.enc rf2)), .mp 265038 b4, .sl 1400055 hd2]), (265038, .map b4 (List.map (fun p => (I p.1, .agg [I p.2.fMatch, .list 1 (List.map I p.2.fGames), .bool p.2.fProtested])) rg2)), (1400055, .arr hd2 70 2 false (List.map (fun x => .agg [I x.a0, I x.a1]) rh2))]) (fun _ => True) ?_ ?_
           ·(conv=>whnf);refine sr ?_;(conv=>whnf);refine ArrS.mk (List.map I [p48.a0, p48.a1]) rfl rfl (map_cells _ fun _ => rfl) ?_;obtain ⟨r266, hx545, hx544⟩ := obind hx544;(conv=>whnf);refine CallG.pure _ (slicesContainsC hN hx545) ?_;(conv=>whnf);refine Br.mk (fun hc269 => ?_) (fun hc269 => ?_)
            ·replace hx544 := ite_f hc269 hx544;(conv=>whnf);refine Br.mk (fun hc270 => ?_) (fun hc270 => ?_)
             ·replace hx544 := ite_t hc270 hx544;cases hx544;(conv=>whnf);refine ⟨(), trivial, Sub.eq rfl ?_ ?_⟩
              ·(repeat ((conv=>whnf);refine nr ?_));exact trivial
              ·(conv=>whnf);refine no ?_;(conv=>whnf);refine no ?_;(conv=>whnf);refine no ?_;exact trivial
             ·replace hx544 := ite_f hc270 hx544;cases hx544;(conv=>whnf);refine ⟨(), trivial, Sub.eq rfl ?_ ?_⟩
              ·(repeat ((conv=>whnf);refine nr ?_));exact trivial
              ·(conv=>whnf);refine no ?_;(conv=>whnf);refine no ?_;(conv=>whnf);refine no ?_;exact trivial
            ·replace hx544 := ite_t hc269 hx544;cases hx544;(conv=>whnf);refine ⟨(), trivial, Sub.eq rfl ?_ ?_⟩
             ·(repeat ((conv=>whnf);refine nr ?_));exact trivial
             ·(conv=>whnf);refine no ?_;(conv=>whnf);refine no ?_;(conv=>whnf);refine no ?_;exact trivial
           ·rintro _ _;(conv=>whnf);refine Br.mk (fun hc271 => ?_) (fun hc271 => ?_)
            ·replace hl2 := ite_t hc271 hl2;(conv=>whnf);cases hl2;exact rfl
            ·replace hl2 := ite_f hc271 hl2;obtain ⟨v56, hx546, hl2⟩ := obind hl2;(conv=>whnf);refine SeqG.mk Unit (fun y => [(1, .d (.list 1 (List.map I winners1))), (2, .d (I upsets1)), (7, .ptr 265040 b3 0), (9, .d (I many14)), (38, .d (.list 4 (List.map LadderPair.enc rf2))), (39, .d (I v49)), (40, .d (I v50)), (103, .d (.bool v56))]) (fun y => [(265040, .cells b3 [.d (.int .u8 rb2), .d (I rc2), .d (I rd2), .d (.list 3 (List.map LadderResult.enc re2)), .d (.list 4 (List.map LadderPair.enc rf2)), .mp 265038 b4, .sl 1400055 hd2]), (265038, .map b4 (List.map (fun p => (I p.1, .agg [I p.2.fMatch, .list 1 (List.map I p.2.fGames), .bool p.2.fProtested])) rg2)), (1400055, .arr hd2 70 2 false (List.map (fun x => .agg [I x.a0, I x.a1]) rh2))]) (fun _ => True) ?_ ?_
             ·(conv=>whnf);refine Br.mk (fun hc273 => ?_) (fun hc273 => ?_)
              ·replace hx546 := ite_t hc273 hx546;(conv=>whnf);refine IxG.mk 0 rfl (by decide) ?_;(conv=>whnf);refine IxG.mk 1 rfl (by decide) ?_;cases hx546;(conv=>whnf);refine ⟨(), trivial, Sub.eq rfl ?_ ?_⟩
               ·(repeat ((conv=>whnf);refine nr ?_));exact trivial
               ·(conv=>whnf);refine no ?_;(conv=>whnf);refine no ?_;(conv=>whnf);refine no ?_;exact trivial
              ·replace hx546 := ite_f hc273 hx546;cases hx546;(conv=>whnf);refine ⟨(), trivial, Sub.eq rfl ?_ ?_⟩
               ·(repeat ((conv=>whnf);refine nr ?_));exact trivial
               ·(conv=>whnf);refine no ?_;(conv=>whnf);refine no ?_;(conv=>whnf);refine no ?_;exact trivial
             ·rintro _ _;(conv=>whnf);refine Br.mk (fun hc274 => ?_) (fun hc274 => ?_)
              ·replace hl2 := ite_t hc274 hl2;(conv=>whnf);refine ⟨w64 (many14 + 1), hl2, Sub.eq rfl ?_ ?_⟩
               ·(repeat ((conv=>whnf);refine nr ?_));exact trivial
               ·(conv=>whnf);refine no ?_;(conv=>whnf);refine no ?_;(conv=>whnf);refine no ?_;exact trivial
              ·replace hl2 := ite_f hc274 hl2;(conv=>whnf);refine ⟨many14, hl2, Sub.eq rfl ?_ ?_⟩
               ·(repeat ((conv=>whnf);refine nr ?_));exact trivial
               ·(conv=>whnf);refine no ?_;(conv=>whnf);refine no ?_;(conv=>whnf);refine no ?_;exact trivial
        ·rintro many15 h;unfold ladderProveWay_k2 at h;(conv=>whnf);refine ⟨(n2, (many15, v49, w64 (v50 + 1))), h, Sub.eq rfl ?_ ?_, Nat.lt_succ_self _⟩
         ·(repeat ((conv=>whnf);refine nr ?_));exact trivial
         ·(conv=>whnf);refine no ?_;(conv=>whnf);refine no ?_;(conv=>whnf);refine no ?_;exact trivial
       ·replace hl2 := ite_f hc232 hl2;(conv=>whnf);refine ⟨many14, hl2, Sub.eq rfl ?_ ?_⟩
        ·(repeat ((conv=>whnf);refine nr ?_));exact trivial
        ·exact trivial
     ·clear h;rintro many8 h;unfold ladderProveWay_k1 at h;(conv=>whnf);cases h;exact rfl
end Go.Proofs.Ytbceakhnnnfiaaa
