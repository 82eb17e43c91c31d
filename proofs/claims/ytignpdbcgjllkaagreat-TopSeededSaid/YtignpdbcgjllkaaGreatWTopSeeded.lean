/-
  The walk of the law TopSeeded.
-/
import Derived.Test.YtignpdbcgjllkaaGreatDTopSeeded
import Derived.Test.YtignpdbcgjllkaaGreatWe
import Derived.Test.YtignpdbcgjllkaaGreatVa
import Derived.Test.YtignpdbcgjllkaaGreatVb
import Derived.Test.YtignpdbcgjllkaaGreatVd
import Derived.Test.YtignpdbcgjllkaaGreatVe
namespace Go.Proofs.YtignpdbcgjllkaaGreat
open Go Go.Abs Go.Kp
set_option maxRecDepth 100000
set_option maxHeartbeats 8000000
set_option linter.all false
theorem kingpintopTopSeededC {N : Nat} (hN : N ≤ 1073741824) {l1 : Ref08League} {rules1 : List Int} {form1 : Int} {r : Bool} (h : kingpintopTopSeeded N l1 rules1 form1 = some r) :
    ACalls Tryz.prog 4 [.d (.agg [I l1.fTeams, .list 5 (List.map Ref08Game.enc l1.fGames)]), .d (.list 1 (List.map (fun x => .int .u8 x) rules1)), .d (.int .u8 form1)] [] fun e os => e = .ret (.d (.bool r)) ∧ os = [] := by
  refine acalls_f (fresh := false) tt_ok dr_ok ⟨[3], [], [], [], [1, 6, 9, 28, 32, 34, 36, 1003, 1012, 1015, 1018, 1024, 1034], 0, []⟩ Tryz.func4 rfl Tryz.call4 rfl ?_
  unfold kingpintopTopSeeded at h
  obtain ⟨v2, hx10, h⟩ := obind h;(conv=>whnf);refine SeqG.mk Unit (fun y => [(1, .d (.list 1 (List.map (fun x => .int .u8 x) rules1))), (2, .d (.int .u8 form1)), (3, .d (.ref (.agg [I l1.fTeams, .list 5 (List.map Ref08Game.enc l1.fGames)]))), (35, .d (.bool v2))]) (fun y => []) (fun _ => True) ?_ ?_
  ·obtain ⟨r9, hx11, hx10⟩ := obind hx10;(conv=>whnf);refine CallG.pure _ (law08ThinC hN hx11) ?_;(conv=>whnf);refine Br.mk (fun hc8 => ?_) (fun hc8 => ?_)
   ·replace hx10 := ite_f hc8 hx10;obtain ⟨r10, hx12, hx10⟩ := obind hx10;(conv=>whnf);refine CallG.pure _ (ref08FaultC hN hx12) ?_;(conv=>whnf);refine Br.mk (fun hc9 => ?_) (fun hc9 => ?_)
    ·replace hx10 := ite_f hc9 hx10;(conv=>whnf);refine LnA.mk _ (List.length_map _) ?_;cases hx10;(conv=>whnf);refine ⟨(), trivial, Sub.eq rfl ?_ ?_⟩
     ·(repeat ((conv=>whnf);refine nr ?_));exact trivial
     ·exact trivial
    ·replace hx10 := ite_t hc9 hx10;cases hx10;(conv=>whnf);refine ⟨(), trivial, Sub.eq rfl ?_ ?_⟩
     ·(repeat ((conv=>whnf);refine nr ?_));exact trivial
     ·exact trivial
   ·replace hx10 := ite_t hc8 hx10;cases hx10;(conv=>whnf);refine ⟨(), trivial, Sub.eq rfl ?_ ?_⟩
    ·(repeat ((conv=>whnf);refine nr ?_));exact trivial
    ·exact trivial
  ·rintro _ _;(conv=>whnf);refine Br.mk (fun hc10 => ?_) (fun hc10 => ?_)
   ·replace h := ite_t hc10 h;obtain ⟨r12, hx14, h⟩ := obind h;(conv=>whnf);refine CallG.pure _ (kingpintopDueledC hN hx14) ?_;(conv=>whnf);cases h;exact rfl
   ·replace h := ite_f hc10 h;(conv=>whnf);refine SeqG.mk Unit (fun y => [(1, .d (.list 1 (List.map (fun x => .int .u8 x) rules1))), (2, .d (.int .u8 form1)), (3, .d (.ref (.agg [I l1.fTeams, .list 5 (List.map Ref08Game.enc l1.fGames)])))]) (fun y => []) (fun y => kingpintopTopSeeded_k4 N l1 rules1 form1 = some r) ?_ ?_
    ·(conv=>whnf);refine LoopG.mk (Nat × Int) (fun y => [(1, .d (.list 1 (List.map (fun x => .int .u8 x) rules1))), (2, .d (.int .u8 form1)), (3, .d (.ref (.agg [I l1.fTeams, .list 5 (List.map Ref08Game.enc l1.fGames)]))), (7, .d (I y.2))]) (fun y => []) (fun y => loopN (fun rr x => kingpintopTopSeeded_b5 N l1 rules1 form1 rr x) y.1 y.2 = some r) (fun y => y.1) (N, 0) h (Sub.eq rfl ?_ ?_) ?_
     ·(repeat ((conv=>whnf);refine nr ?_));exact trivial
     ·exact trivial
     ·rintro ⟨n18, i8⟩ hl18;obtain ⟨n18, rfl, hl18⟩ := loopN_some hl18;replace hl18 : kingpintopTopSeeded_b5 N l1 rules1 form1 (loopN (fun rr x => kingpintopTopSeeded_b5 N l1 rules1 form1 rr x) n18) i8 = some r := hl18;rw [kingpintopTopSeeded_b5] at hl18;(conv=>whnf);refine LnA.mk _ (List.length_map _) ?_;(conv=>whnf);refine Br.mk (fun hc366 => ?_) (fun hc366 => ?_)
      ·replace hl18 := ite_t hc366 hl18;obtain ⟨v54, hx512, hl18⟩ := obind hl18;(conv=>whnf);refine SeqG.mk Unit (fun y => [(1, .d (.list 1 (List.map (fun x => .int .u8 x) rules1))), (2, .d (.int .u8 form1)), (3, .d (.ref (.agg [I l1.fTeams, .list 5 (List.map Ref08Game.enc l1.fGames)]))), (7, .d (I i8)), (54, .d (.bool v54))]) (fun y => []) (fun _ => True) ?_ ?_
       ·obtain ⟨x200, hx513, hx512⟩ := obind hx512;(conv=>whnf);refine Side.mk rfl ⟨_, idx_0 hx513, idx_map _ hx513, ?_⟩;(conv=>whnf);refine Br.mk (fun hc371 => ?_) (fun hc371 => ?_)
        ·replace hx512 := ite_f hc371 hx512;(conv=>whnf);refine Side.mk rfl ⟨_, idx_0 hx513, idx_map _ hx513, ?_⟩;cases hx512;(conv=>whnf);refine ⟨(), trivial, Sub.eq rfl ?_ ?_⟩
         ·(repeat ((conv=>whnf);refine nr ?_));exact trivial
         ·exact trivial
        ·replace hx512 := ite_t hc371 hx512;cases hx512;(conv=>whnf);refine ⟨(), trivial, Sub.eq rfl ?_ ?_⟩
         ·(repeat ((conv=>whnf);refine nr ?_));exact trivial
         ·exact trivial
       ·rintro _ _;(conv=>whnf);refine Br.mk (fun hc372 => ?_) (fun hc372 => ?_)
        ·replace hl18 := ite_t hc372 hl18;obtain ⟨r84, hx515, hl18⟩ := obind hl18;(conv=>whnf);refine CallG.pure _ (kingpintopDueledC hN hx515) ?_;(conv=>whnf);cases hl18;exact rfl
        ·replace hl18 := ite_f hc372 hl18;(conv=>whnf);refine ⟨(n18, w64 (i8 + 1)), hl18, Sub.eq rfl ?_ ?_, Nat.lt_succ_self _⟩
         ·(repeat ((conv=>whnf);refine nr ?_));exact trivial
         ·exact trivial
      ·replace hl18 := ite_f hc366 hl18;(conv=>whnf);refine ⟨(), hl18, Sub.eq rfl ?_ ?_⟩
       ·(repeat ((conv=>whnf);refine nr ?_));exact trivial
       ·exact trivial
    ·clear h;rintro _ h;unfold kingpintopTopSeeded_k4 at h;obtain ⟨r26, hx48, h⟩ := obind h;(conv=>whnf);refine CallG.pure _ (law08LeagueC hN hx48) ?_;obtain ⟨l3, hx49, h⟩ := obind h;(conv=>whnf);refine sr ?_;(conv=>whnf);refine Need.mk (app_need0 hN hx49 (by decide)) (Eqv.mk (List.map (fun x => .int .u8 x) l3) (app_map0 _ hx49) ?_);(conv=>whnf);intro hd2;obtain ⟨⟨ra2, rb2⟩, hx50, h⟩ := obind h;(conv=>whnf);refine sr ?_;(conv=>whnf);refine CallG.pure _ (leagueRankC hN hx50) ?_;obtain ⟨v10, hx52, h⟩ := obind h;(conv=>whnf);refine SeqG.mk Unit (fun y => [(1, .d (.list 1 (List.map (fun x => .int .u8 x) rules1))), (2, .d (.int .u8 form1)), (3, .d (.ref (.agg [I l1.fTeams, .list 5 (List.map Ref08Game.enc l1.fGames)]))), (8, .d (.list 1 (List.map I ra2))), (72, .d (.bool v10))]) (fun y => []) (fun _ => True) ?_ ?_
     ·(conv=>whnf);refine Br.mk (fun hc39 => ?_) (fun hc39 => ?_)
      ·replace hx52 := ite_f hc39 hx52;(conv=>whnf);refine LnA.mk _ (List.length_map _) ?_;cases hx52;(conv=>whnf);refine ⟨(), trivial, Sub.eq rfl ?_ ?_⟩
       ·(repeat ((conv=>whnf);refine nr ?_));exact trivial
       ·exact trivial
      ·replace hx52 := ite_t hc39 hx52;cases hx52;(conv=>whnf);refine ⟨(), trivial, Sub.eq rfl ?_ ?_⟩
       ·(repeat ((conv=>whnf);refine nr ?_));exact trivial
       ·exact trivial
     ·rintro _ _;(conv=>whnf);refine Br.mk (fun hc40 => ?_) (fun hc40 => ?_)
      ·replace h := ite_t hc40 h;cases h
      ·replace h := ite_f hc40 h;obtain ⟨l89, hx182, h⟩ := obind h;(conv=>whnf);refine SeqG.mk Value (fun y => [(1, .d (.list 1 (List.map (fun x => .int .u8 x) rules1))), (2, .d (.int .u8 form1)), (3, .d (.ref (.agg [I l1.fTeams, .list 5 (List.map Ref08Game.enc l1.fGames)]))), (8, .d (.list 1 (List.map I ra2))), (10, .sl 94 y)]) (fun y => [(94, .arr y 3 1 false (List.map I l89))]) (fun _ => True) ?_ ?_
       ·(conv=>whnf);refine LoopG.mk (Nat × (Int × (List Int)) × Value) (fun y => [(1, .d (.list 1 (List.map (fun x => .int .u8 x) rules1))), (2, .d (.int .u8 form1)), (3, .d (.ref (.agg [I l1.fTeams, .list 5 (List.map Ref08Game.enc l1.fGames)]))), (8, .d (.list 1 (List.map I ra2))), (10, .sl 94 y.2.2), (11, .d (I y.2.1.1))]) (fun y => [(94, .arr y.2.2 3 1 false (List.map I y.2.1.2))]) (fun y => loopN (fun rr x => kingpintopTopSeeded_b2 N l1 ra2 rr x.1 x.2) y.1 y.2.1 = some l89) (fun y => y.1) (N, (1, []), (.slice none 0 0)) hx182 (Sub.eq rfl ?_ ?_) ?_
        ·(repeat ((conv=>whnf);refine nr ?_));exact trivial
        ·(conv=>whnf);refine Need.mk (OLe.nil _ _ _ _) ?_;exact trivial
        ·rintro ⟨n13, ⟨rank8, l147⟩, hd206⟩ hl13;obtain ⟨n13, rfl, hl13⟩ := loopN_some hl13;replace hl13 : kingpintopTopSeeded_b2 N l1 ra2 (loopN (fun rr x => kingpintopTopSeeded_b2 N l1 ra2 rr x.1 x.2) n13) rank8 l147 = some l89 := hl13;rw [kingpintopTopSeeded_b2] at hl13;(conv=>whnf);refine Br.mk (fun hc172 => ?_) (fun hc172 => ?_)
         ·replace hl13 := ite_t hc172 hl13;obtain ⟨l161, hx290, hl13⟩ := obind hl13;(conv=>whnf);refine SeqG.mk Value (fun y => [(1, .d (.list 1 (List.map (fun x => .int .u8 x) rules1))), (2, .d (.int .u8 form1)), (3, .d (.ref (.agg [I l1.fTeams, .list 5 (List.map Ref08Game.enc l1.fGames)]))), (8, .d (.list 1 (List.map I ra2))), (10, .sl 94 y), (11, .d (I rank8))]) (fun y => [(94, .arr y 3 1 false (List.map I l161))]) (fun _ => True) ?_ ?_
          ·(conv=>whnf);refine LoopG.mk (Nat × (Int × (List Int)) × Value) (fun y => [(1, .d (.list 1 (List.map (fun x => .int .u8 x) rules1))), (2, .d (.int .u8 form1)), (3, .d (.ref (.agg [I l1.fTeams, .list 5 (List.map Ref08Game.enc l1.fGames)]))), (8, .d (.list 1 (List.map I ra2))), (10, .sl 94 y.2.2), (11, .d (I rank8)), (12, .d (I y.2.1.1))]) (fun y => [(94, .arr y.2.2 3 1 false (List.map I y.2.1.2))]) (fun y => loopN (fun rr x => kingpintopTopSeeded_b1 N l1 ra2 rank8 rr x.1 x.2) y.1 y.2.1 = some l161) (fun y => y.1) (N, (0, l147), hd206) hx290 (Sub.eq rfl ?_ ?_) ?_
           ·(repeat ((conv=>whnf);refine nr ?_));exact trivial
           ·(conv=>whnf);refine no ?_;exact trivial
           ·rintro ⟨n15, ⟨t48, l171⟩, hd240⟩ hl15;obtain ⟨n15, rfl, hl15⟩ := loopN_some hl15;replace hl15 : kingpintopTopSeeded_b1 N l1 ra2 rank8 (loopN (fun rr x => kingpintopTopSeeded_b1 N l1 ra2 rank8 rr x.1 x.2) n15) t48 l171 = some l161 := hl15;rw [kingpintopTopSeeded_b1] at hl15;(conv=>whnf);refine Br.mk (fun hc194 => ?_) (fun hc194 => ?_)
            ·replace hl15 := ite_t hc194 hl15;obtain ⟨l173, hx308, hl15⟩ := obind hl15;(conv=>whnf);refine SeqG.mk Value (fun y => [(1, .d (.list 1 (List.map (fun x => .int .u8 x) rules1))), (2, .d (.int .u8 form1)), (3, .d (.ref (.agg [I l1.fTeams, .list 5 (List.map Ref08Game.enc l1.fGames)]))), (8, .d (.list 1 (List.map I ra2))), (10, .sl 94 y), (11, .d (I rank8)), (12, .d (I t48))]) (fun y => [(94, .arr y 3 1 false (List.map I l173))]) (fun _ => True) ?_ ?_
             ·obtain ⟨x156, hx310, hx308⟩ := obind hx308;(conv=>whnf);refine Side.mk rfl ⟨_, idx_0 hx310, idx_map _ hx310, ?_⟩;(conv=>whnf);refine Br.mk (fun hc196 => ?_) (fun hc196 => ?_)
              ·replace hx308 := ite_t hc196 hx308;(conv=>whnf);intro hd244;obtain ⟨l174, hx311, hx308⟩ := obind hx308;(conv=>whnf);refine Side.mk ⟨rfl, rfl⟩ ?_;(conv=>whnf);refine Side.mk ⟨rfl, rfl, rfl⟩ (Need.mk (app_need hN hx311 (by decide)) (Eqv.mk (List.map I l174) (app_map _ hx311) ?_));(conv=>whnf);intro hd245;cases hx308;(conv=>whnf);refine ⟨hd245, trivial, Sub.eq rfl ?_ ?_⟩
               ·(repeat ((conv=>whnf);refine nr ?_));exact trivial
               ·(conv=>whnf);refine no ?_;exact trivial
              ·replace hx308 := ite_f hc196 hx308;cases hx308;(conv=>whnf);refine ⟨hd240, trivial, Sub.eq rfl ?_ ?_⟩
               ·(repeat ((conv=>whnf);refine nr ?_));exact trivial
               ·(conv=>whnf);refine no ?_;exact trivial
             ·rintro hd243 _;(conv=>whnf);refine ⟨(n15, (w64 (t48 + 1), l173), hd243), hl15, Sub.eq rfl ?_ ?_, Nat.lt_succ_self _⟩
              ·(repeat ((conv=>whnf);refine nr ?_));exact trivial
              ·(conv=>whnf);refine no ?_;exact trivial
            ·replace hl15 := ite_f hc194 hl15;cases hl15;(conv=>whnf);refine ⟨hd240, trivial, Sub.eq rfl ?_ ?_⟩
             ·(repeat ((conv=>whnf);refine nr ?_));exact trivial
             ·(conv=>whnf);refine no ?_;exact trivial
          ·rintro hd226 _;(conv=>whnf);refine ⟨(n13, (w64 (rank8 + 1), l161), hd226), hl13, Sub.eq rfl ?_ ?_, Nat.lt_succ_self _⟩
           ·(repeat ((conv=>whnf);refine nr ?_));exact trivial
           ·(conv=>whnf);refine no ?_;exact trivial
         ·replace hl13 := ite_f hc172 hl13;cases hl13;(conv=>whnf);refine ⟨hd206, trivial, Sub.eq rfl ?_ ?_⟩
          ·(repeat ((conv=>whnf);refine nr ?_));exact trivial
          ·(conv=>whnf);refine no ?_;exact trivial
       ·rintro hd124 _;(conv=>whnf);refine Side.mk rfl (LnA.mk _ (List.length_map _) ?_);(conv=>whnf);refine Br.mk (fun hc198 => ?_) (fun hc198 => ?_)
        ·replace h := ite_t hc198 h;cases h
        ·replace h := ite_f hc198 h;(conv=>whnf);refine Need.mk (by decide) ?_;(conv=>whnf);intro b2;(conv=>whnf);refine sr ?_;obtain ⟨r28, hx314, h⟩ := obind h;obtain ⟨⟨ra4, rb4⟩, hx315, h⟩ := obind h;(conv=>whnf);refine DrawG.mk (.take 0 (.take 2 (.take 3 (.take 4 (.alt 1 [4, 3, 2] (.alt 5 [3, 2] (.take 6 (.take 7 (.take 8 (.take 9 (.take 10 .done))))) .nil) .nil))))) (by kernel_rfl) ?_;(conv=>whnf);refine sr ?_;(conv=>whnf);refine Both.mk ?_ trivial;(conv=>whnf);refine CallG.pure _ (law09CupC hN hx314) ?_;(conv=>whnf);refine nl ?_;(conv=>whnf);refine nl ?_;(conv=>whnf);refine nl ?_;(conv=>whnf);refine Both.mk ?_ trivial;(conv=>whnf);refine CallG.pure _ (ladderUpsetsC hN hx315) ?_;(conv=>whnf);refine nl ?_;(conv=>whnf);refine nl ?_;obtain ⟨⟨c8, l189⟩, hx380, h⟩ := obind h;(conv=>whnf)
         refine SeqG.mk Value (fun y => [(1, .d (.list 1 (List.map (fun x => .int .u8 x) rules1))), (3, .d (.ref (.agg [I l1.fTeams, .list 5 (List.map Ref08Game.enc l1.fGames)]))), (8, .d (.list 1 (List.map I ra2))), (10, .sl 94 hd124), (13, .ptr 13 b2 0), (14, .d (I ra4)), (15, .d (I rb4))]) (fun y => [(94, .arr hd124 3 1 false (List.map I l89)), (13, .cells b2 [.d (.int .u8 c8), .d (I l1.fTeams), .d (I 1), .sl 152 y]), (152, .arr y 52 3 true (List.map Ref09Result.enc l189))]) (fun _ => True) ?_ ?_
         ·(conv=>whnf);refine LoopG.mk (Nat × (Int × Int × (List Ref09Result)) × Value) (fun y => [(1, .d (.list 1 (List.map (fun x => .int .u8 x) rules1))), (3, .d (.ref (.agg [I l1.fTeams, .list 5 (List.map Ref08Game.enc l1.fGames)]))), (8, .d (.list 1 (List.map I ra2))), (10, .sl 94 hd124), (13, .ptr 13 b2 0), (14, .d (I ra4)), (15, .d (I rb4)), (16, .d (I y.2.1.1))]) (fun y => [(94, .arr hd124 3 1 false (List.map I l89)), (13, .cells b2 [.d (.int .u8 y.2.1.2.1), .d (I l1.fTeams), .d (I 1), .sl 152 y.2.2]), (152, .arr y.2.2 52 3 true (List.map Ref09Result.enc y.2.1.2.2))]) (fun y => loopN (fun rr x => kingpintopTopSeeded_b3 N l1 rr x.1 x.2.1 x.2.2) y.1 y.2.1 = some (c8, l189)) (fun y => y.1) (N, (0, Int.tmod form1 2, []), (.slice none 0 0)) hx380 (Sub.eq rfl ?_ ?_) ?_
          ·(repeat ((conv=>whnf);refine nr ?_));exact trivial
          ·(conv=>whnf);refine no ?_;(conv=>whnf);refine Need.mk (OLe.cells _ _ _ (by repeat (first | exact trivial | ((conv => whnf); refine Need.mk rfl ?_)))) ?_;(conv=>whnf);refine Need.mk (OLe.nil _ _ _ _) ?_;exact trivial
          ·rintro ⟨n17, ⟨k12, c15, l201⟩, hd342⟩ hl17;obtain ⟨n17, rfl, hl17⟩ := loopN_some hl17;replace hl17 : kingpintopTopSeeded_b3 N l1 (loopN (fun rr x => kingpintopTopSeeded_b3 N l1 rr x.1 x.2.1 x.2.2) n17) k12 c15 l201 = some (c8, l189) := hl17;rw [kingpintopTopSeeded_b3] at hl17;(conv=>whnf);refine Br.mk (fun hc298 => ?_) (fun hc298 => ?_)
           ·replace hl17 := ite_t hc298 hl17;(conv=>whnf);refine sr ?_;obtain ⟨r60, hx439, hl17⟩ := obind hl17;(conv=>whnf);refine sr ?_;(conv=>whnf);refine CallG.pure _ (law09CupC hN hx439) ?_;obtain ⟨⟨ra36, rb36⟩, hx440, hl17⟩ := obind hl17;(conv=>whnf);refine CallG.pure _ (ladderNextC hN hx440) ?_;obtain ⟨v42, hx442, hl17⟩ := obind hl17;(conv=>whnf)
            refine SeqG.mk Unit (fun y => [(1, .d (.list 1 (List.map (fun x => .int .u8 x) rules1))), (3, .d (.ref (.agg [I l1.fTeams, .list 5 (List.map Ref08Game.enc l1.fGames)]))), (8, .d (.list 1 (List.map I ra2))), (10, .sl 94 hd124), (13, .ptr 13 b2 0), (14, .d (I ra4)), (15, .d (I rb4)), (16, .d (I k12)), (17, .d (.list 5 (List.map LadderMatch.enc ra36))), (133, .d (.bool v42))]) (fun y => [(94, .arr hd124 3 1 false (List.map I l89)), (13, .cells b2 [.d (.int .u8 c15), .d (I l1.fTeams), .d (I 1), .sl 152 hd342]), (152, .arr hd342 52 3 true (List.map Ref09Result.enc l201))]) (fun _ => True) ?_ ?_
            ·(conv=>whnf);refine Br.mk (fun hc309 => ?_) (fun hc309 => ?_)
             ·replace hx442 := ite_f hc309 hx442;(conv=>whnf);refine LnA.mk _ (List.length_map _) ?_;cases hx442;(conv=>whnf);refine ⟨(), trivial, Sub.eq rfl ?_ ?_⟩
              ·(repeat ((conv=>whnf);refine nr ?_));exact trivial
              ·(conv=>whnf);refine no ?_;(conv=>whnf);refine no ?_;(conv=>whnf);refine no ?_;exact trivial
             ·replace hx442 := ite_t hc309 hx442;cases hx442;(conv=>whnf);refine ⟨(), trivial, Sub.eq rfl ?_ ?_⟩
              ·(repeat ((conv=>whnf);refine nr ?_));exact trivial
              ·(conv=>whnf);refine no ?_;(conv=>whnf);refine no ?_;(conv=>whnf);refine no ?_;exact trivial
            ·rintro _ _;(conv=>whnf);refine Br.mk (fun hc310 => ?_) (fun hc310 => ?_)
             ·replace hl17 := ite_t hc310 hl17;cases hl17
             ·replace hl17 := ite_f hc310 hl17;obtain ⟨x172, hx443, hl17⟩ := obind hl17;obtain ⟨l203, hx444, hl17⟩ := obind hl17;(conv=>whnf);refine DrawG.mk (.take 0 (.take 1 (.take 2 (.take 3 (.take 4 (.take 5 (.take 6 (.take 7 (.take 8 (.take 9 (.take 10 (.take 11 (.take 12 (.take 13 (.take 14 (.alt 15 [13, 12, 11, 10, 9, 8, 7, 6, 5, 4, 3, 2, 1, 0] (.alt 16 [13, 12, 11, 10, 9, 8, 7, 6, 4, 3, 2, 1, 0] (.alt 17 [13, 12, 11, 10, 9, 8, 7, 6, 4, 3, 2, 1, 0] (.alt 18 [13, 12, 11, 10, 9, 8, 7, 6, 4, 3, 2, 0] (.take 19 (.alt 20 [] .done .nil)) .nil) .nil) .nil) .nil)))))))))))))))) (by kernel_rfl) ?_;(conv=>whnf);refine sr ?_;(conv=>whnf);refine Side.mk rfl ⟨_, idx_0 hx443, idx_map _ hx443, ?_⟩;(conv=>whnf);refine Side.mk rfl ⟨_, idx_0 hx443, idx_map _ hx443, ?_⟩;(conv=>whnf);refine Side.mk rfl ⟨_, idx_0 hx443, idx_map _ hx443, ?_⟩;(conv=>whnf);refine Both.mk ?_ trivial;(conv=>whnf)
              intro hd352;(conv=>whnf);refine nl ?_;(conv=>whnf);refine nl ?_;(conv=>whnf);refine Side.mk rfl ⟨_, idx_0 hx443, idx_map _ hx443, ?_⟩;(conv=>whnf);refine nl ?_;(conv=>whnf);refine nl ?_;(conv=>whnf);refine nl ?_;(conv=>whnf);refine nl ?_;(conv=>whnf);refine Side.mk rfl ⟨_, idx_0 hx443, idx_map _ hx443, ?_⟩;(conv=>whnf);refine nl ?_;(conv=>whnf);refine nl ?_;(conv=>whnf);refine nl ?_;(conv=>whnf);refine nl ?_;(conv=>whnf);refine Side.mk rfl ⟨_, idx_0 hx443, idx_map _ hx443, ?_⟩;(conv=>whnf);refine nl ?_;(conv=>whnf);refine nl ?_;(conv=>whnf);refine sr ?_;(conv=>whnf);refine nl ?_;(conv=>whnf);refine nl ?_;(conv=>whnf);refine Both.mk ?_ trivial;(conv=>whnf);refine sr ?_;(conv=>whnf);refine nl ?_;(conv=>whnf);refine nl ?_;(conv=>whnf);refine Side.mk rfl ⟨_, idx_0 hx443, idx_map _ hx443, ?_⟩;(conv=>whnf);refine nl ?_;(conv=>whnf);refine nl ?_;(conv=>whnf);refine nl ?_
              (conv=>whnf);refine nl ?_;(conv=>whnf);refine Side.mk rfl ⟨_, idx_0 hx443, idx_map _ hx443, ?_⟩;(conv=>whnf);refine nl ?_;(conv=>whnf);refine nl ?_;(conv=>whnf);refine nl ?_;(conv=>whnf);refine Side.mk rfl ⟨_, idx_0 hx443, idx_map _ hx443, ?_⟩;(conv=>whnf);refine nl ?_;(conv=>whnf);refine nl ?_;(conv=>whnf);refine sr ?_;(conv=>whnf);refine nl ?_;(conv=>whnf);refine nl ?_;(conv=>whnf);refine Both.mk ?_ trivial;(conv=>whnf);intro hd353;(conv=>whnf);refine nl ?_;(conv=>whnf);refine nl ?_;(conv=>whnf);refine Side.mk rfl ⟨_, idx_0 hx443, idx_map _ hx443, ?_⟩;(conv=>whnf);refine nl ?_;(conv=>whnf);refine nl ?_;(conv=>whnf);refine nl ?_;(conv=>whnf);refine nl ?_;(conv=>whnf);refine Side.mk rfl ⟨_, idx_0 hx443, idx_map _ hx443, ?_⟩;(conv=>whnf);refine nl ?_;(conv=>whnf);refine nl ?_;(conv=>whnf);refine nl ?_;(conv=>whnf);refine Side.mk rfl ⟨_, idx_0 hx443, idx_map _ hx443, ?_⟩
              (conv=>whnf);refine nl ?_;(conv=>whnf);refine nl ?_;(conv=>whnf);refine sr ?_;(conv=>whnf);refine nl ?_;(conv=>whnf);refine nl ?_;(conv=>whnf);refine Both.mk ?_ trivial;(conv=>whnf);refine Side.mk ⟨rfl, rfl⟩ ?_;(conv=>whnf);refine Side.mk ⟨rfl, rfl, rfl⟩ (Need.mk (app_need hN hx444 (by decide)) (Eqv.mk (List.map Ref09Result.enc l203) (app_map _ hx444) ?_));(conv=>whnf);intro hd354;(conv=>whnf);refine nl ?_;(conv=>whnf);refine nl ?_;(conv=>whnf);refine Side.mk rfl ⟨_, idx_0 hx443, idx_map _ hx443, ?_⟩;(conv=>whnf);refine nl ?_;(conv=>whnf);refine nl ?_;(conv=>whnf);refine nl ?_;(conv=>whnf);refine nl ?_;(conv=>whnf);refine Side.mk rfl ⟨_, idx_0 hx443, idx_map _ hx443, ?_⟩;(conv=>whnf);refine nl ?_;(conv=>whnf);refine nl ?_;(conv=>whnf);refine nl ?_;(conv=>whnf);refine Side.mk rfl ⟨_, idx_0 hx443, idx_map _ hx443, ?_⟩;(conv=>whnf);refine nl ?_;(conv=>whnf);refine nl ?_
              (conv=>whnf);refine nl ?_;(conv=>whnf);refine Both.mk ?_ trivial;(conv=>whnf);refine sr ?_;(conv=>whnf);refine ⟨(n17, (w64 (k12 + 1), c15, l203), hd354), hl17, Sub.eq rfl ?_ ?_, Nat.lt_succ_self _⟩
              ·(repeat ((conv=>whnf);refine nr ?_));exact trivial
              ·(conv=>whnf);refine no ?_;(conv=>whnf);refine no ?_;(conv=>whnf);refine no ?_;exact trivial
           ·replace hl17 := ite_f hc298 hl17;cases hl17;(conv=>whnf);refine ⟨hd342, trivial, Sub.eq rfl ?_ ?_⟩
            ·(repeat ((conv=>whnf);refine nr ?_));exact trivial
            ·(conv=>whnf);refine no ?_;(conv=>whnf);refine no ?_;(conv=>whnf);refine no ?_;exact trivial
         ·rintro hd300 _;(conv=>whnf);refine sr ?_;obtain ⟨r62, hx447, h⟩ := obind h;(conv=>whnf);refine sr ?_;(conv=>whnf);refine CallG.pure _ (law09CupC hN hx447) ?_;obtain ⟨⟨ra38, rb38⟩, hx448, h⟩ := obind h;(conv=>whnf);refine CallG.pure _ (ladderWinnerC hN hx448) ?_;obtain ⟨v44, hx456, h⟩ := obind h;(conv=>whnf);refine SeqG.mk Unit (fun y => [(1, .d (.list 1 (List.map (fun x => .int .u8 x) rules1))), (3, .d (.ref (.agg [I l1.fTeams, .list 5 (List.map Ref08Game.enc l1.fGames)]))), (10, .sl 94 hd124), (19, .d (I ra38)), (189, .d (.bool v44))]) (fun y => [(94, .arr hd124 3 1 false (List.map I l89))]) (fun _ => True) ?_ ?_
          ·(conv=>whnf);refine Br.mk (fun hc327 => ?_) (fun hc327 => ?_)
           ·replace hx456 := ite_f hc327 hx456;(conv=>whnf);refine Br.mk (fun hc328 => ?_) (fun hc328 => ?_)
            ·replace hx456 := ite_f hc328 hx456;(conv=>whnf);refine Br.mk (fun hc329 => ?_) (fun hc329 => ?_)
             ·replace hx456 := ite_f hc329 hx456;(conv=>whnf);refine Br.mk (fun hc330 => ?_) (fun hc330 => ?_)
              ·replace hx456 := ite_f hc330 hx456;(conv=>whnf);refine Br.mk (fun hc331 => ?_) (fun hc331 => ?_)
               ·replace hx456 := ite_f hc331 hx456;obtain ⟨x179, hx457, hx456⟩ := obind hx456;(conv=>whnf);refine Side.mk ⟨rfl, rfl⟩ (Need.mk (idx_need _ hx457) ?_);(conv=>whnf);refine Side.mk ⟨rfl, rfl⟩ ⟨_, Int.natCast_nonneg _, idx_el _ hx457, ?_⟩;obtain ⟨x180, hx458, hx456⟩ := obind hx456;(conv=>whnf);refine Side.mk rfl ⟨_, idx_0 hx458, idx_map _ hx458, ?_⟩;cases hx456;(conv=>whnf);refine ⟨(), trivial, Sub.eq rfl ?_ ?_⟩
                ·(repeat ((conv=>whnf);refine nr ?_));exact trivial
                ·(conv=>whnf);refine no ?_;exact trivial
               ·replace hx456 := ite_t hc331 hx456;cases hx456;(conv=>whnf);refine ⟨(), trivial, Sub.eq rfl ?_ ?_⟩
                ·(repeat ((conv=>whnf);refine nr ?_));exact trivial
                ·(conv=>whnf);refine no ?_;exact trivial
              ·replace hx456 := ite_t hc330 hx456;cases hx456;(conv=>whnf);refine ⟨(), trivial, Sub.eq rfl ?_ ?_⟩
               ·(repeat ((conv=>whnf);refine nr ?_));exact trivial
               ·(conv=>whnf);refine no ?_;exact trivial
             ·replace hx456 := ite_t hc329 hx456;cases hx456;(conv=>whnf);refine ⟨(), trivial, Sub.eq rfl ?_ ?_⟩
              ·(repeat ((conv=>whnf);refine nr ?_));exact trivial
              ·(conv=>whnf);refine no ?_;exact trivial
            ·replace hx456 := ite_t hc328 hx456;cases hx456;(conv=>whnf);refine ⟨(), trivial, Sub.eq rfl ?_ ?_⟩
             ·(repeat ((conv=>whnf);refine nr ?_));exact trivial
             ·(conv=>whnf);refine no ?_;exact trivial
           ·replace hx456 := ite_t hc327 hx456;cases hx456;(conv=>whnf);refine ⟨(), trivial, Sub.eq rfl ?_ ?_⟩
            ·(repeat ((conv=>whnf);refine nr ?_));exact trivial
            ·(conv=>whnf);refine no ?_;exact trivial
          ·rintro _ _;(conv=>whnf);refine Br.mk (fun hc332 => ?_) (fun hc332 => ?_)
           ·replace h := ite_t hc332 h;cases h
           ·replace h := ite_f hc332 h;obtain ⟨_, hx471, h⟩ := obind h;(conv=>whnf);refine SeqG.mk Unit (fun y => []) (fun y => []) (fun _ => True) ?_ ?_
            ·obtain ⟨v47, hx474, hx471⟩ := obind hx471;(conv=>whnf);refine SeqG.mk Unit (fun y => [(3, .d (.ref (.agg [I l1.fTeams, .list 5 (List.map Ref08Game.enc l1.fGames)]))), (10, .sl 94 hd124), (19, .d (I ra38)), (203, .d (.bool v47))]) (fun y => [(94, .arr hd124 3 1 false (List.map I l89))]) (fun _ => True) ?_ ?_
             ·obtain ⟨r68, hx475, hx474⟩ := obind hx474;(conv=>whnf);refine CallG.pure _ (ref08OpenC hN hx475) ?_;(conv=>whnf);refine Br.mk (fun hc343 => ?_) (fun hc343 => ?_)
              ·replace hx474 := ite_t hc343 hx474;(conv=>whnf);refine LnA.mk _ (List.length_map _) ?_;(conv=>whnf);refine Br.mk (fun hc344 => ?_) (fun hc344 => ?_)
               ·replace hx474 := ite_t hc344 hx474;obtain ⟨x186, hx476, hx474⟩ := obind hx474;(conv=>whnf);refine Side.mk rfl ⟨_, idx_0 hx476, idx_map _ hx476, ?_⟩;cases hx474;(conv=>whnf);refine ⟨(), trivial, Sub.eq rfl ?_ ?_⟩
                ·(repeat ((conv=>whnf);refine nr ?_));exact trivial
                ·(conv=>whnf);refine no ?_;exact trivial
               ·replace hx474 := ite_f hc344 hx474;cases hx474;(conv=>whnf);refine ⟨(), trivial, Sub.eq rfl ?_ ?_⟩
                ·(repeat ((conv=>whnf);refine nr ?_));exact trivial
                ·(conv=>whnf);refine no ?_;exact trivial
              ·replace hx474 := ite_f hc343 hx474;cases hx474;(conv=>whnf);refine ⟨(), trivial, Sub.eq rfl ?_ ?_⟩
               ·(repeat ((conv=>whnf);refine nr ?_));exact trivial
               ·(conv=>whnf);refine no ?_;exact trivial
             ·rintro _ _;(conv=>whnf);refine Br.mk (fun hc345 => ?_) (fun hc345 => ?_)
              ·replace hx471 := ite_t hc345 hx471;obtain ⟨x188, hx480, hx471⟩ := obind hx471;obtain ⟨r70, hx481, hx471⟩ := obind hx471;obtain ⟨⟨ra42, rb42⟩, hx482, hx471⟩ := obind hx471;(conv=>whnf);refine DrawG.mk (.take 0 (.take 2 (.take 3 (.take 4 (.take 5 (.alt 1 [5, 4, 3, 2] (.alt 6 [4, 3, 2] (.take 7 (.take 8 (.take 9 (.take 10 (.take 11 .done))))) .nil) .nil)))))) (by kernel_rfl) ?_;(conv=>whnf);refine Side.mk ⟨rfl, rfl⟩ (Need.mk (idx_need _ hx480) ?_);(conv=>whnf);refine Side.mk ⟨rfl, rfl⟩ ⟨_, Int.natCast_nonneg _, idx_el _ hx480, ?_⟩;(conv=>whnf);refine Both.mk ?_ trivial;(conv=>whnf);refine CallG.pure _ (law08LeagueC hN hx481) ?_;(conv=>whnf);refine Side.mk ⟨rfl, rfl⟩ ⟨_, Int.natCast_nonneg _, idx_el _ hx480, ?_⟩;(conv=>whnf);refine nl ?_;(conv=>whnf);refine Side.mk ⟨rfl, rfl⟩ (Need.mk (idx_need _ hx480) ?_);(conv=>whnf);refine nl ?_;(conv=>whnf);refine nl ?_;(conv=>whnf)
               refine nl ?_;(conv=>whnf);refine Both.mk ?_ trivial;(conv=>whnf);refine CallG.pure _ (leagueCanFirstC hN hx482) ?_;(conv=>whnf);refine Side.mk ⟨rfl, rfl⟩ (Need.mk (idx_need _ hx480) ?_);(conv=>whnf);refine nl ?_;(conv=>whnf);refine nl ?_;(conv=>whnf);refine nl ?_;obtain ⟨v48, hx483, hx471⟩ := obind hx471;(conv=>whnf);refine SeqG.mk Unit (fun y => [(219, .d (.bool v48))]) (fun y => []) (fun _ => True) ?_ ?_
               ·(conv=>whnf);refine Br.mk (fun hc347 => ?_) (fun hc347 => ?_)
                ·replace hx483 := ite_f hc347 hx483;cases hx483;(conv=>whnf);refine ⟨(), trivial, Sub.eq rfl ?_ ?_⟩
                 ·(repeat ((conv=>whnf);refine nr ?_));exact trivial
                 ·exact trivial
                ·replace hx483 := ite_t hc347 hx483;cases hx483;(conv=>whnf);refine ⟨(), trivial, Sub.eq rfl ?_ ?_⟩
                 ·(repeat ((conv=>whnf);refine nr ?_));exact trivial
                 ·exact trivial
               ·rintro _ _;(conv=>whnf);refine Br.mk (fun hc348 => ?_) (fun hc348 => ?_)
                ·replace hx471 := ite_t hc348 hx471;cases hx471
                ·replace hx471 := ite_f hc348 hx471;(conv=>whnf);refine ⟨(), trivial, Sub.eq rfl ?_ ?_⟩
                 ·(repeat ((conv=>whnf);refine nr ?_));exact trivial
                 ·exact trivial
              ·replace hx471 := ite_f hc345 hx471;(conv=>whnf);refine ⟨(), trivial, Sub.eq rfl ?_ ?_⟩
               ·(repeat ((conv=>whnf);refine nr ?_));exact trivial
               ·exact trivial
            ·rintro _ _;obtain ⟨r72, hx485, h⟩ := obind h;(conv=>whnf);refine CallG.pure _ (kingpintopDueledC hN hx485) ?_;(conv=>whnf);cases h;exact rfl
end Go.Proofs.YtignpdbcgjllkaaGreat
