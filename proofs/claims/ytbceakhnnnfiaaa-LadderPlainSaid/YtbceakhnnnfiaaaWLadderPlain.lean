/-
  The walk of the law LadderPlain.
-/
import Derived.Test.YtbceakhnnnfiaaaDLadderPlain
import Derived.Test.YtbceakhnnnfiaaaWe
import Derived.Test.YtbceakhnnnfiaaaVc
import Derived.Test.YtbceakhnnnfiaaaVe
import Derived.Test.YtbceakhnnnfiaaaVf
import Derived.Test.YtbceakhnnnfiaaaVg
import Derived.Test.YtbceakhnnnfiaaaVn
namespace Go.Proofs.Ytbceakhnnnfiaaa
open Go Go.Abs Go.Kp
set_option maxRecDepth 100000
set_option maxHeartbeats 8000000
set_option linter.all false

theorem law09LadderPlainC {N : Nat} (hN : N ≤ 1073741824) {c1 : Ref09Cup} {r : Bool} (h : law09LadderPlain N c1 = some r) :
    ACalls Try.prog 6 [.d (.agg [.int .u8 c1.fForm, I c1.fPlayers, I c1.fGames, .list 3 (List.map Ref09Result.enc c1.fResults)])] [] fun e os => e = .ret (.d (.bool r)) ∧ os = [] := by
  refine acalls_f (fresh := false) tt_ok dr_ok ⟨[1], [], [], [], [19, 1008, 1011, 1021], 0, []⟩ Try.func6 rfl Try.call6 rfl ?_
  unfold law09LadderPlain at h
  obtain ⟨r6, hx6, h⟩ := obind h;(conv=>whnf);refine CallG.pure _ (law09ReadyC hN hx6) ?_;(conv=>whnf);refine Br.mk (fun hc2 => ?_) (fun hc2 => ?_)
  ·replace h := ite_t hc2 h;obtain ⟨r8, hx8, h⟩ := obind h;(conv=>whnf);refine CallG.pure _ (law09WakesC hN hx8) ?_;(conv=>whnf);cases h;exact rfl
  ·replace h := ite_f hc2 h;(conv=>whnf);intro b2;(conv=>whnf);refine sr ?_;(conv=>whnf);intro hd3;obtain ⟨l2, hx10, h⟩ := obind h;(conv=>whnf);refine sr ?_;(conv=>whnf);refine Side.mk ⟨rfl, rfl, rfl⟩ (Need.mk (app_need hN hx10 (by decide)) (Eqv.mk (List.map Ref09Result.enc l2) (app_map _ hx10) ?_));(conv=>whnf);intro hd4;(conv=>whnf);refine sr ?_;obtain ⟨r10, hx12, h⟩ := obind h;(conv=>whnf);refine CallG.pure _ (ref09TreeC hN hx12) ?_;obtain ⟨⟨decided8, l23, l24⟩, hx76, h⟩ := obind h;(conv=>whnf)
   refine SeqG.mk Value (fun y => [(1, .d (.ref (.agg [.int .u8 c1.fForm, I c1.fPlayers, I c1.fGames, .list 3 (List.map Ref09Result.enc c1.fResults)]))), (3, .ptr 3 b2 0), (4, .d (I decided8)), (5, .sl 73 y)]) (fun y => [(3, .cells b2 [.d (.int .u8 c1.fForm), .d (I c1.fPlayers), .d (I c1.fGames), .sl 20 hd4]), (73, .arr y 3 1 false (List.map I l23)), (20, .arr hd4 45 3 false (List.map Ref09Result.enc l24))]) (fun _ => True) ?_ ?_
   ·(conv=>whnf);refine LoopG.mk (Nat × (Int × Int × (List Int) × (List Ref09Result)) × Value) (fun y => [(1, .d (.ref (.agg [.int .u8 c1.fForm, I c1.fPlayers, I c1.fGames, .list 3 (List.map Ref09Result.enc c1.fResults)]))), (3, .ptr 3 b2 0), (4, .d (I y.2.1.1)), (5, .sl 73 y.2.2), (6, .d (.list 4 (List.map Ref09Pair.enc r10))), (7, .d (I y.2.1.2.1))]) (fun y => [(3, .cells b2 [.d (.int .u8 c1.fForm), .d (I c1.fPlayers), .d (I c1.fGames), .sl 20 hd4]), (73, .arr y.2.2 3 1 false (List.map I y.2.1.2.2.1)), (20, .arr hd4 45 3 false (List.map Ref09Result.enc y.2.1.2.2.2))]) (fun y => loopN (fun rr x => law09LadderPlain_b1 N c1 r10 rr x.1 x.2.1 x.2.2.1 x.2.2.2) y.1 y.2.1 = some (decided8, l23, l24)) (fun y => y.1) (N, (0, 0, [], l2), (.slice none 0 0)) hx76 (Sub.eq rfl ?_ ?_) ?_
    ·(repeat ((conv=>whnf);refine nr ?_));exact trivial
    ·(conv=>whnf);refine no ?_;(conv=>whnf);refine Need.mk (OLe.nil _ _ _ _) ?_;(conv=>whnf);refine no ?_;exact trivial
    ·rintro ⟨n2, ⟨decided14, i8, l39, l40⟩, hd58⟩ hl2;obtain ⟨n2, rfl, hl2⟩ := loopN_some hl2;replace hl2 : law09LadderPlain_b1 N c1 r10 (loopN (fun rr x => law09LadderPlain_b1 N c1 r10 rr x.1 x.2.1 x.2.2.1 x.2.2.2) n2) decided14 i8 l39 l40 = some (decided8, l23, l24) := hl2;rw [law09LadderPlain_b1] at hl2;(conv=>whnf);refine sr ?_;(conv=>whnf);refine Side.mk rfl (LnA.mk _ (List.length_map _) ?_);(conv=>whnf);refine Br.mk (fun hc24 => ?_) (fun hc24 => ?_)
     ·replace hl2 := ite_t hc24 hl2;obtain ⟨⟨decided15, l42, l43⟩, hx129, hl2⟩ := obind hl2;(conv=>whnf);refine SeqG.mk Value (fun y => [(1, .d (.ref (.agg [.int .u8 c1.fForm, I c1.fPlayers, I c1.fGames, .list 3 (List.map Ref09Result.enc c1.fResults)]))), (3, .ptr 3 b2 0), (4, .d (I decided15)), (5, .sl 73 y), (6, .d (.list 4 (List.map Ref09Pair.enc r10))), (7, .d (I i8))]) (fun y => [(3, .cells b2 [.d (.int .u8 c1.fForm), .d (I c1.fPlayers), .d (I c1.fGames), .sl 20 hd4]), (73, .arr y 3 1 false (List.map I l42)), (20, .arr hd4 45 3 false (List.map Ref09Result.enc l43))]) (fun _ => True) ?_ ?_
      ·(conv=>whnf);refine sr ?_;obtain ⟨x57, hx131, hx129⟩ := obind hx129;(conv=>whnf);refine Side.mk ⟨rfl, rfl⟩ (Need.mk (idx_need _ hx131) ?_);(conv=>whnf);refine Side.mk ⟨rfl, rfl⟩ ⟨_, Int.natCast_nonneg _, idx_el _ hx131, ?_⟩;(conv=>whnf);refine Eqv.mk (List.map Ref09Result.enc (List.set l40 (Int.toNat i8) (Ref09Result.mk x57.fMatch x57.fGames false))) (set_map _ _ _ _ rfl) ?_;(conv=>whnf);refine sr ?_;obtain ⟨x59, hx133, hx129⟩ := obind hx129;(conv=>whnf);refine Side.mk ⟨rfl, rfl⟩ (Need.mk (idx_need _ hx133) ?_);(conv=>whnf);refine Side.mk ⟨rfl, rfl⟩ ⟨_, Int.natCast_nonneg _, idx_el _ hx133, ?_⟩;(conv=>whnf);intro b26;(conv=>whnf);refine sr ?_;(conv=>whnf);refine sr ?_;obtain ⟨r56, hx135, hx129⟩ := obind hx129;(conv=>whnf);refine CallG.pure _ (ref09WonC hN hx135) ?_;(conv=>whnf);refine Br.mk (fun hc26 => ?_) (fun hc26 => ?_)
       ·replace hx129 := ite_t hc26 hx129;obtain ⟨x60, hx136, hx129⟩ := obind hx129;obtain ⟨r57, hx137, hx129⟩ := obind hx129;obtain ⟨r58, hx138, hx129⟩ := obind hx129;obtain ⟨l44, hx139, hx129⟩ := obind hx129;(conv=>whnf);refine DrawG.mk (.take 0 (.take 1 (.take 2 (.take 3 (.take 4 (.take 5 (.take 6 (.take 7 (.take 9 (.take 10 (.take 11 (.take 12 (.take 13 (.take 14 (.take 15 (.take 18 (.alt 8 [18, 15, 14, 13, 12, 11, 10, 9, 6, 5, 4, 3, 2, 0] (.alt 16 [18, 14, 13, 12, 11, 10, 6, 5, 4, 3, 2, 0] (.take 17 (.take 19 (.alt 20 [17, 18, 14, 13, 12, 11, 10, 6, 5, 4, 3, 2, 0] (.alt 21 [17, 18, 14, 13, 12, 11, 10, 6, 5, 4, 3, 2] (.take 22 .done) .nil) .nil))) .nil) .nil))))))))))))))))) (by kernel_rfl) ?_;(conv=>whnf);refine sr ?_;(conv=>whnf);refine Side.mk rfl ⟨_, idx_0 hx136, idx_map _ hx136, ?_⟩;(conv=>whnf);refine sr ?_;(conv=>whnf);refine Side.mk rfl ⟨_, idx_0 hx136, idx_map _ hx136, ?_⟩
        (conv=>whnf);refine Both.mk ?_ trivial;(conv=>whnf);refine CallG.pure _ (ref09KnownC hN hx137) ?_;(conv=>whnf);refine nl ?_;(conv=>whnf);refine nl ?_;(conv=>whnf);refine nl ?_;(conv=>whnf);refine Side.mk rfl ⟨_, idx_0 hx136, idx_map _ hx136, ?_⟩;(conv=>whnf);refine nl ?_;(conv=>whnf);refine sr ?_;(conv=>whnf);refine nl ?_;(conv=>whnf);refine nl ?_;(conv=>whnf);refine nl ?_;(conv=>whnf);refine nl ?_;(conv=>whnf);refine nl ?_;(conv=>whnf);refine Side.mk rfl ⟨_, idx_0 hx136, idx_map _ hx136, ?_⟩;(conv=>whnf);refine nl ?_;(conv=>whnf);refine sr ?_;(conv=>whnf);refine nl ?_;(conv=>whnf);refine nl ?_;(conv=>whnf);refine nl ?_;(conv=>whnf);refine nl ?_;(conv=>whnf);refine Both.mk ?_ trivial;(conv=>whnf);refine CallG.pure _ (ref09KnownC hN hx138) ?_;(conv=>whnf);refine nl ?_;(conv=>whnf);refine nl ?_;(conv=>whnf);refine Side.mk rfl ⟨_, idx_0 hx136, idx_map _ hx136, ?_⟩;(conv=>whnf)
        refine nl ?_;(conv=>whnf);refine sr ?_;(conv=>whnf);refine nl ?_;(conv=>whnf);refine nl ?_;(conv=>whnf);refine nl ?_;(conv=>whnf);refine nl ?_;(conv=>whnf);refine Side.mk rfl ⟨_, idx_0 hx136, idx_map _ hx136, ?_⟩;(conv=>whnf);refine nl ?_;(conv=>whnf);refine sr ?_;(conv=>whnf);refine nl ?_;(conv=>whnf);refine nl ?_;(conv=>whnf);refine nl ?_;(conv=>whnf);refine nl ?_;(conv=>whnf);refine Both.mk ?_ trivial;(conv=>whnf);intro hd66;(conv=>whnf);refine nl ?_;(conv=>whnf);refine nl ?_;(conv=>whnf);refine nl ?_;(conv=>whnf);refine Side.mk rfl ⟨_, idx_0 hx136, idx_map _ hx136, ?_⟩;(conv=>whnf);refine nl ?_;(conv=>whnf);refine sr ?_;(conv=>whnf);refine nl ?_;(conv=>whnf);refine nl ?_;(conv=>whnf);refine nl ?_;(conv=>whnf);refine nl ?_;(conv=>whnf);refine Side.mk rfl ⟨_, idx_0 hx136, idx_map _ hx136, ?_⟩;(conv=>whnf);refine nl ?_;(conv=>whnf);refine sr ?_;(conv=>whnf);refine nl ?_
        (conv=>whnf);refine nl ?_;(conv=>whnf);refine nl ?_;(conv=>whnf);refine nl ?_;(conv=>whnf);refine Both.mk ?_ trivial;(conv=>whnf);refine Side.mk ⟨rfl, rfl⟩ ?_;(conv=>whnf);refine Side.mk ⟨rfl, rfl, rfl⟩ (Need.mk (app_need hN hx139 (by decide)) (Eqv.mk (List.map I l44) (app_map _ hx139) ?_));(conv=>whnf);intro hd67;(conv=>whnf);refine nl ?_;(conv=>whnf);refine nl ?_;(conv=>whnf);refine nl ?_;(conv=>whnf);refine Side.mk rfl ⟨_, idx_0 hx136, idx_map _ hx136, ?_⟩;(conv=>whnf);refine nl ?_;(conv=>whnf);refine sr ?_;(conv=>whnf);refine nl ?_;(conv=>whnf);refine nl ?_;(conv=>whnf);refine nl ?_;(conv=>whnf);refine nl ?_;(conv=>whnf);refine Side.mk rfl ⟨_, idx_0 hx136, idx_map _ hx136, ?_⟩;(conv=>whnf);refine nl ?_;(conv=>whnf);refine sr ?_;(conv=>whnf);refine nl ?_;(conv=>whnf);refine nl ?_;(conv=>whnf);refine nl ?_;cases hx129;(conv=>whnf);refine ⟨hd67, trivial, Sub.eq rfl ?_ ?_⟩
        ·(repeat ((conv=>whnf);refine nr ?_));exact trivial
        ·(conv=>whnf);refine no ?_;(conv=>whnf);refine no ?_;(conv=>whnf);refine no ?_;exact trivial
       ·replace hx129 := ite_f hc26 hx129;cases hx129;(conv=>whnf);refine ⟨hd58, trivial, Sub.eq rfl ?_ ?_⟩
        ·(repeat ((conv=>whnf);refine nr ?_));exact trivial
        ·(conv=>whnf);refine no ?_;(conv=>whnf);refine no ?_;(conv=>whnf);refine no ?_;exact trivial
      ·rintro hd63 _;(conv=>whnf);refine ⟨(n2, (decided15, w64 (i8 + 1), l42, l43), hd63), hl2, Sub.eq rfl ?_ ?_, Nat.lt_succ_self _⟩
       ·(repeat ((conv=>whnf);refine nr ?_));exact trivial
       ·(conv=>whnf);refine no ?_;(conv=>whnf);refine no ?_;(conv=>whnf);refine no ?_;exact trivial
     ·replace hl2 := ite_f hc24 hl2;cases hl2;(conv=>whnf);refine ⟨hd58, trivial, Sub.eq rfl ?_ ?_⟩
      ·(repeat ((conv=>whnf);refine nr ?_));exact trivial
      ·(conv=>whnf);refine no ?_;(conv=>whnf);refine no ?_;(conv=>whnf);refine no ?_;exact trivial
   ·rintro hd36 _;(conv=>whnf);refine sr ?_;obtain ⟨r60, hx142, h⟩ := obind h;(conv=>whnf);refine sr ?_;(conv=>whnf);refine CallG.pure _ (law09CupC hN hx142) ?_;obtain ⟨⟨ra2, rb2⟩, hx143, h⟩ := obind h;(conv=>whnf);refine CallG.pure _ (ladderHangsC hN hx143) ?_;(conv=>whnf);refine sr ?_;obtain ⟨r62, hx146, h⟩ := obind h;(conv=>whnf);refine sr ?_;(conv=>whnf);refine CallG.pure _ (law09CupC hN hx146) ?_;obtain ⟨⟨ra4, rb4⟩, hx147, h⟩ := obind h;(conv=>whnf);refine CallG.pure _ (ladderMayWinC hN hx147) ?_;obtain ⟨v2, hx149, h⟩ := obind h;(conv=>whnf);refine SeqG.mk Unit (fun y => [(5, .sl 73 hd36), (12, .d (.list 1 (List.map I ra4))), (105, .d (.bool v2))]) (fun y => [(73, .arr hd36 3 1 false (List.map I l23))]) (fun _ => True) ?_ ?_
    ·(conv=>whnf);refine Br.mk (fun hc37 => ?_) (fun hc37 => ?_)
     ·replace hx149 := ite_f hc37 hx149;(conv=>whnf);refine LnA.mk _ (List.length_map _) ?_;(conv=>whnf);refine Br.mk (fun hc38 => ?_) (fun hc38 => ?_)
      ·replace hx149 := ite_f hc38 hx149;(conv=>whnf);refine Br.mk (fun hc39 => ?_) (fun hc39 => ?_)
       ·replace hx149 := ite_f hc39 hx149;(conv=>whnf);refine LnA.mk _ (List.length_map _) ?_;cases hx149;(conv=>whnf);refine ⟨(), trivial, Sub.eq rfl ?_ ?_⟩
        ·(repeat ((conv=>whnf);refine nr ?_));exact trivial
        ·(conv=>whnf);refine no ?_;exact trivial
       ·replace hx149 := ite_t hc39 hx149;cases hx149;(conv=>whnf);refine ⟨(), trivial, Sub.eq rfl ?_ ?_⟩
        ·(repeat ((conv=>whnf);refine nr ?_));exact trivial
        ·(conv=>whnf);refine no ?_;exact trivial
      ·replace hx149 := ite_t hc38 hx149;cases hx149;(conv=>whnf);refine ⟨(), trivial, Sub.eq rfl ?_ ?_⟩
       ·(repeat ((conv=>whnf);refine nr ?_));exact trivial
       ·(conv=>whnf);refine no ?_;exact trivial
     ·replace hx149 := ite_t hc37 hx149;cases hx149;(conv=>whnf);refine ⟨(), trivial, Sub.eq rfl ?_ ?_⟩
      ·(repeat ((conv=>whnf);refine nr ?_));exact trivial
      ·(conv=>whnf);refine no ?_;exact trivial
    ·rintro _ _;(conv=>whnf);refine Br.mk (fun hc40 => ?_) (fun hc40 => ?_)
     ·replace h := ite_t hc40 h;(conv=>whnf);cases h;exact rfl
     ·replace h := ite_f hc40 h;(conv=>whnf);refine SeqG.mk Unit (fun y => []) (fun y => []) (fun y => law09LadderPlain_k2 N = some r) ?_ ?_
      ·(conv=>whnf);refine LoopG.mk (Nat × (Int × (List Int))) (fun y => [(5, .sl 73 hd36), (12, .d (.list 1 (List.map I ra4))), (14, .d (I y.2.1))]) (fun y => [(73, .arr hd36 3 1 true (List.map I y.2.2))]) (fun y => loopN (fun rr x => law09LadderPlain_b3 N ra4 rr x.1 x.2) y.1 y.2 = some r) (fun y => y.1) (N, (0, l23)) h (Sub.eq rfl ?_ ?_) ?_
       ·(repeat ((conv=>whnf);refine nr ?_));exact trivial
       ·(conv=>whnf);refine Need.mk (OLe.arr _ _ _ _ _) ?_;exact trivial
       ·rintro ⟨n4, ⟨i16, l52⟩⟩ hl4;obtain ⟨n4, rfl, hl4⟩ := loopN_some hl4;replace hl4 : law09LadderPlain_b3 N ra4 (loopN (fun rr x => law09LadderPlain_b3 N ra4 rr x.1 x.2) n4) i16 l52 = some r := hl4;rw [law09LadderPlain_b3] at hl4;(conv=>whnf);refine LnA.mk _ (List.length_map _) ?_;(conv=>whnf);refine Br.mk (fun hc62 => ?_) (fun hc62 => ?_)
        ·replace hl4 := ite_t hc62 hl4;obtain ⟨x84, hx198, hl4⟩ := obind hl4;(conv=>whnf);refine Side.mk rfl ⟨_, idx_0 hx198, idx_map _ hx198, ?_⟩;obtain ⟨r88, hx199, hl4⟩ := obind hl4;(conv=>whnf);refine sr ?_;(conv=>whnf);refine CallG.pure _ (law09HasC hN hx199) ?_;(conv=>whnf);refine Br.mk (fun hc64 => ?_) (fun hc64 => ?_)
         ·replace hl4 := ite_t hc64 hl4;(conv=>whnf);cases hl4;exact rfl
         ·replace hl4 := ite_f hc64 hl4;(conv=>whnf);refine ⟨(n4, (w64 (i16 + 1), l52)), hl4, Sub.eq rfl ?_ ?_, Nat.lt_succ_self _⟩
          ·(repeat ((conv=>whnf);refine nr ?_));exact trivial
          ·(conv=>whnf);refine no ?_;exact trivial
        ·replace hl4 := ite_f hc62 hl4;(conv=>whnf);refine ⟨(), hl4, Sub.eq rfl ?_ ?_⟩
         ·(repeat ((conv=>whnf);refine nr ?_));exact trivial
         ·exact trivial
      ·clear h;rintro _ h;unfold law09LadderPlain_k2 at h;obtain ⟨r76, hx175, h⟩ := obind h;(conv=>whnf);refine CallG.pure _ (law09WakesC hN hx175) ?_;(conv=>whnf);cases h;exact rfl
end Go.Proofs.Ytbceakhnnnfiaaa
