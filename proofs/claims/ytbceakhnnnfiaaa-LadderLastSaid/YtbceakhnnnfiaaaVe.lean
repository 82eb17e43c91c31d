/-
  Walks: what the typed functions compute, the program’s functions return.
-/
import Derived.Test.YtbceakhnnnfiaaaWe
import Derived.Test.YtbceakhnnnfiaaaVd
namespace Go.Proofs.Ytbceakhnnnfiaaa
open Go Go.Abs Go.Kp
set_option maxRecDepth 100000
set_option maxHeartbeats 8000000
set_option linter.all false
theorem law09ThinC {N : Nat} (hN : N ≤ 1073741824) {c1 : Ref09Cup} {r : Bool} (h : law09Thin N c1 = some r) :
    ACalls Try.prog 40 [.d (.agg [.int .u8 c1.fForm, I c1.fPlayers, I c1.fGames, .list 3 (List.map Ref09Result.enc c1.fResults)])] [] fun e os => e = .ret (.d (.bool r)) ∧ os = [] := by
  refine acalls_f (fresh := false) tt_ok dr_ok ⟨[1], [], [], [], [2, 1001], 0, []⟩ Try.func40 rfl Try.call40 rfl ?_
  unfold law09Thin at h
  (conv=>whnf);refine SeqG.mk Unit (fun y => [(1, .d (.ref (.agg [.int .u8 c1.fForm, I c1.fPlayers, I c1.fGames, .list 3 (List.map Ref09Result.enc c1.fResults)])))]) (fun y => []) (fun y => law09Thin_k1 N c1 = some r) ?_ ?_
  ·(conv=>whnf);refine LoopG.mk (Nat × Int) (fun y => [(1, .d (.ref (.agg [.int .u8 c1.fForm, I c1.fPlayers, I c1.fGames, .list 3 (List.map Ref09Result.enc c1.fResults)]))), (3, .d (I y.2))]) (fun y => []) (fun y => loopN (fun rr x => law09Thin_b2 N c1 rr x) y.1 y.2 = some r) (fun y => y.1) (N, 0) h (Sub.eq rfl ?_ ?_) ?_
   ·(repeat ((conv=>whnf);refine nr ?_));exact trivial
   ·exact trivial
   ·rintro ⟨n2, i8⟩ hl2;obtain ⟨n2, rfl, hl2⟩ := loopN_some hl2;replace hl2 : law09Thin_b2 N c1 (loopN (fun rr x => law09Thin_b2 N c1 rr x) n2) i8 = some r := hl2;rw [law09Thin_b2] at hl2;obtain ⟨v12, hx32, hl2⟩ := obind hl2;(conv=>whnf);refine SeqG.mk Unit (fun y => [(1, .d (.ref (.agg [.int .u8 c1.fForm, I c1.fPlayers, I c1.fGames, .list 3 (List.map Ref09Result.enc c1.fResults)]))), (3, .d (I i8)), (12, .d (.bool v12))]) (fun y => []) (fun _ => True) ?_ ?_
    ·(conv=>whnf);refine LnA.mk _ (List.length_map _) ?_;(conv=>whnf);refine Br.mk (fun hc45 => ?_) (fun hc45 => ?_)
     ·replace hx32 := ite_t hc45 hx32;cases hx32;(conv=>whnf);refine ⟨(), trivial, Sub.eq rfl ?_ ?_⟩
      ·(repeat ((conv=>whnf);refine nr ?_));exact trivial
      ·exact trivial
     ·replace hx32 := ite_f hc45 hx32;cases hx32;(conv=>whnf);refine ⟨(), trivial, Sub.eq rfl ?_ ?_⟩
      ·(repeat ((conv=>whnf);refine nr ?_));exact trivial
      ·exact trivial
    ·rintro _ _;(conv=>whnf);refine Br.mk (fun hc46 => ?_) (fun hc46 => ?_)
     ·replace hl2 := ite_t hc46 hl2;obtain ⟨x24, hx36, hl2⟩ := obind hl2;(conv=>whnf);refine Side.mk rfl ⟨_, idx_0 hx36, idx_map _ hx36, ?_⟩;(conv=>whnf);refine LnA.mk _ (List.length_map _) ?_;(conv=>whnf);refine Br.mk (fun hc48 => ?_) (fun hc48 => ?_)
      ·replace hl2 := ite_t hc48 hl2;(conv=>whnf);cases hl2;exact rfl
      ·replace hl2 := ite_f hc48 hl2;(conv=>whnf);refine ⟨(n2, w64 (i8 + 1)), hl2, Sub.eq rfl ?_ ?_, Nat.lt_succ_self _⟩
       ·(repeat ((conv=>whnf);refine nr ?_));exact trivial
       ·exact trivial
     ·replace hl2 := ite_f hc46 hl2;(conv=>whnf);refine ⟨(), hl2, Sub.eq rfl ?_ ?_⟩
      ·(repeat ((conv=>whnf);refine nr ?_));exact trivial
      ·exact trivial
  ·clear h;rintro _ h;unfold law09Thin_k1 at h;(conv=>whnf);refine LnA.mk _ (List.length_map _) ?_;(conv=>whnf);cases h;exact rfl
theorem ref09OrderC {N : Nat} (hN : N ≤ 1073741824) {places1 : Int} {r : (List Int)} (h : ref09Order N places1 = some r) :
    ACalls Try.prog 59 [.d (I places1)] [] fun e os => e = .ret (.d (.list 1 (List.map I r))) ∧ os = [] := by
  refine acalls_f (fresh := false) tt_ok dr_ok ⟨[], [], [], [], [1002, 1004], 0, []⟩ Try.func59 rfl Try.call59 rfl ?_
  unfold ref09Order at h
  (conv=>whnf);intro hd2;obtain ⟨l68, hx76, h⟩ := obind h;(conv=>whnf);refine SeqG.mk Value (fun y => [(3, .sl 6 y)]) (fun y => [(6, .arr y 3 1 false (List.map I l68))]) (fun _ => True) ?_ ?_
  ·(conv=>whnf);refine LoopG.mk (Nat × (List Int) × Value) (fun y => [(0, .d (I places1)), (3, .sl 6 y.2.2)]) (fun y => [(6, .arr y.2.2 3 1 false (List.map I y.2.1))]) (fun y => loopN (fun rr x => ref09Order_b3 N places1 rr x) y.1 y.2.1 = some l68) (fun y => y.1) (N, [0], hd2) hx76 (Sub.eq rfl ?_ ?_) ?_
   ·(repeat ((conv=>whnf);refine nr ?_));exact trivial
   ·(conv=>whnf);refine no ?_;exact trivial
   ·rintro ⟨n12, l114, hd296⟩ hl12;obtain ⟨n12, rfl, hl12⟩ := loopN_some hl12;replace hl12 : ref09Order_b3 N places1 (loopN (fun rr x => ref09Order_b3 N places1 rr x) n12) l114 = some l68 := hl12;rw [ref09Order_b3] at hl12;(conv=>whnf);refine SeqG.mk Unit (fun y => [(0, .d (I places1)), (3, .sl 6 hd296)]) (fun y => [(6, .arr hd296 3 1 false (List.map I l114))]) (fun y => ref09Order_k2 N l114 (loopN (fun rr x => ref09Order_b3 N places1 rr x) n12) = some l68) ?_ ?_
    ·(conv=>whnf);refine Side.mk rfl (LnA.mk _ (List.length_map _) ?_);(conv=>whnf);refine Br.mk (fun hc84 => ?_) (fun hc84 => ?_)
     ·replace hl12 := ite_t hc84 hl12;(conv=>whnf);refine ⟨(), hl12, Sub.eq rfl ?_ ?_⟩
      ·(repeat ((conv=>whnf);refine nr ?_));exact trivial
      ·(conv=>whnf);refine no ?_;exact trivial
     ·replace hl12 := ite_f hc84 hl12;cases hl12;(conv=>whnf);refine ⟨hd296, trivial, Sub.eq rfl ?_ ?_⟩
      ·(repeat ((conv=>whnf);refine nr ?_));exact trivial
      ·(conv=>whnf);refine no ?_;exact trivial
    ·rintro _ h;unfold ref09Order_k2 at h;obtain ⟨l125, hx139, h⟩ := obind h;(conv=>whnf);refine SeqG.mk Value (fun y => [(0, .d (I places1)), (4, .sl 32 y)]) (fun y => [(32, .arr y 3 1 false (List.map I l125))]) (fun _ => True) ?_ ?_
     ·(conv=>whnf);refine LoopG.mk (Nat × (Int × (List Int)) × Value) (fun y => [(0, .d (I places1)), (3, .sl 6 hd296), (4, .sl 32 y.2.2), (5, .d (I y.2.1.1))]) (fun y => [(6, .arr hd296 3 1 false (List.map I l114)), (32, .arr y.2.2 3 1 false (List.map I y.2.1.2))]) (fun y => loopN (fun rr x => ref09Order_b1 N l114 rr x.1 x.2) y.1 y.2.1 = some l125) (fun y => y.1) (N, (0, []), (.slice none 0 0)) hx139 (Sub.eq rfl ?_ ?_) ?_
      ·(repeat ((conv=>whnf);refine nr ?_));exact trivial
      ·(conv=>whnf);refine no ?_;(conv=>whnf);refine Need.mk (OLe.nil _ _ _ _) ?_;exact trivial
      ·rintro ⟨n14, ⟨i48, l133⟩, hd345⟩ hl14;obtain ⟨n14, rfl, hl14⟩ := loopN_some hl14;replace hl14 : ref09Order_b1 N l114 (loopN (fun rr x => ref09Order_b1 N l114 rr x.1 x.2) n14) i48 l133 = some l125 := hl14;rw [ref09Order_b1] at hl14;(conv=>whnf);refine Side.mk rfl (LnA.mk _ (List.length_map _) ?_);(conv=>whnf);refine Br.mk (fun hc83 => ?_) (fun hc83 => ?_)
       ·replace hl14 := ite_t hc83 hl14;obtain ⟨x72, hx150, hl14⟩ := obind hl14;obtain ⟨l135, hx151, hl14⟩ := obind hl14;(conv=>whnf);refine DrawG.mk (.take 0 (.take 1 (.take 2 (.take 3 (.take 4 (.take 5 (.take 6 (.take 7 (.take 8 (.take 9 (.take 10 (.take 11 (.take 12 (.take 13 (.alt 14 [12, 11, 10, 9, 8, 7, 6, 5, 3, 2, 1, 0] (.alt 15 [12, 11, 10, 9, 8, 7, 6, 5, 3, 2, 1] (.take 16 .done) .nil) .nil))))))))))))))) (by kernel_rfl) ?_;(conv=>whnf);refine Side.mk ⟨rfl, rfl⟩ (Need.mk (idx_need _ hx150) ?_);(conv=>whnf);refine Side.mk ⟨rfl, rfl⟩ ⟨_, Int.natCast_nonneg _, idx_el _ hx150, ?_⟩;(conv=>whnf);refine Side.mk rfl (LnA.mk _ (List.length_map _) ?_);(conv=>whnf);refine Side.mk ⟨rfl, rfl⟩ (Need.mk (idx_need _ hx150) ?_);(conv=>whnf);refine Side.mk ⟨rfl, rfl⟩ ⟨_, Int.natCast_nonneg _, idx_el _ hx150, ?_⟩;(conv=>whnf);refine Both.mk ?_ trivial;(conv=>whnf);intro hd352;(conv=>whnf)
        refine Side.mk ⟨rfl, rfl⟩ ⟨_, Int.natCast_nonneg _, idx_el _ hx150, ?_⟩;(conv=>whnf);refine nl ?_;(conv=>whnf);refine Side.mk ⟨rfl, rfl⟩ (Need.mk (idx_need _ hx150) ?_);(conv=>whnf);refine nl ?_;(conv=>whnf);refine nl ?_;(conv=>whnf);refine nl ?_;(conv=>whnf);refine nl ?_;(conv=>whnf);refine nl ?_;(conv=>whnf);refine Side.mk rfl (LnA.mk _ (List.length_map _) ?_);(conv=>whnf);refine nl ?_;(conv=>whnf);refine nl ?_;(conv=>whnf);refine Side.mk ⟨rfl, rfl⟩ (Need.mk (idx_need _ hx150) ?_);(conv=>whnf);refine nl ?_;(conv=>whnf);refine nl ?_;(conv=>whnf);refine nl ?_;(conv=>whnf);refine nl ?_;(conv=>whnf);refine Both.mk ?_ trivial;(conv=>whnf);refine Side.mk ⟨rfl, rfl⟩ ?_;(conv=>whnf);refine Side.mk ⟨rfl, rfl, rfl⟩ (Need.mk (app_need hN hx151 (by decide)) (Eqv.mk (List.map I l135) (app_map _ hx151) ?_));(conv=>whnf);intro hd353;(conv=>whnf)
        refine Side.mk ⟨rfl, rfl⟩ ⟨_, Int.natCast_nonneg _, idx_el _ hx150, ?_⟩;(conv=>whnf);refine nl ?_;(conv=>whnf);refine Side.mk ⟨rfl, rfl⟩ (Need.mk (idx_need _ hx150) ?_);(conv=>whnf);refine nl ?_;(conv=>whnf);refine nl ?_;(conv=>whnf);refine nl ?_;(conv=>whnf);refine nl ?_;(conv=>whnf);refine nl ?_;(conv=>whnf);refine Side.mk rfl (LnA.mk _ (List.length_map _) ?_);(conv=>whnf);refine nl ?_;(conv=>whnf);refine nl ?_;(conv=>whnf);refine Side.mk ⟨rfl, rfl⟩ (Need.mk (idx_need _ hx150) ?_);(conv=>whnf);refine nl ?_;(conv=>whnf);refine nl ?_;(conv=>whnf);refine nl ?_;(conv=>whnf);refine ⟨(n14, (w64 (i48 + 1), l135), hd353), hl14, Sub.eq rfl ?_ ?_, Nat.lt_succ_self _⟩
        ·(repeat ((conv=>whnf);refine nr ?_));exact trivial
        ·(conv=>whnf);refine no ?_;(conv=>whnf);refine no ?_;exact trivial
       ·replace hl14 := ite_f hc83 hl14;cases hl14;(conv=>whnf);refine ⟨hd345, trivial, Sub.eq rfl ?_ ?_⟩
        ·(repeat ((conv=>whnf);refine nr ?_));exact trivial
        ·(conv=>whnf);refine no ?_;exact trivial
     ·rintro hd325 _;(conv=>whnf);refine ⟨(n12, l125, hd325), h, Sub.ren [(6, 32)] rfl rfl ?_ ?_, Nat.lt_succ_self _⟩
      ·(repeat ((conv=>whnf);refine nr ?_));exact trivial
      ·(conv=>whnf);refine no ?_;exact trivial
  ·rintro hd178 _;(conv=>whnf);refine sr ?_;(conv=>whnf);cases h;exact rfl
theorem ref09TreeC {N : Nat} (hN : N ≤ 1073741824) {c1 : Ref09Cup} {r : (List Ref09Pair)} (h : ref09Tree N c1 = some r) :
    ACalls Try.prog 32 [.d (.agg [.int .u8 c1.fForm, I c1.fPlayers, I c1.fGames, .list 3 (List.map Ref09Result.enc c1.fResults)])] [] fun e os => e = .ret (.d (.list 4 (List.map Ref09Pair.enc r))) ∧ os = [] := by
  refine acalls_f (fresh := false) tt_ok dr_ok ⟨[1], [], [], [], [28, 1002, 1003, 1007, 1012, 1017, 1020, 1021, 1024, 1028], 0, []⟩ Try.func32 rfl Try.call32 rfl ?_
  unfold ref09Tree at h
  (conv=>whnf);refine SeqG.mk Unit (fun y => [(1, .d (.ref (.agg [.int .u8 c1.fForm, I c1.fPlayers, I c1.fGames, .list 3 (List.map Ref09Result.enc c1.fResults)]))), (3, .nils 4)]) (fun y => []) (fun y => ref09Tree_k7 N c1 = some r) ?_ ?_
  ·(conv=>whnf);refine Br.mk (fun hc786 => ?_) (fun hc786 => ?_)
   ·replace h := ite_t hc786 h;obtain ⟨l1389, hx2791, h⟩ := obind h;(conv=>whnf);refine SeqG.mk Value (fun y => [(3, .sl 43 y)]) (fun y => [(43, .arr y 54 4 false (List.map Ref09Pair.enc l1389))]) (fun _ => True) ?_ ?_
    ·(conv=>whnf);refine LoopG.mk (Nat × (Int × (List Ref09Pair)) × Value) (fun y => [(1, .d (.ref (.agg [.int .u8 c1.fForm, I c1.fPlayers, I c1.fGames, .list 3 (List.map Ref09Result.enc c1.fResults)]))), (3, .sl 43 y.2.2), (4, .d (I y.2.1.1))]) (fun y => [(43, .arr y.2.2 54 4 false (List.map Ref09Pair.enc y.2.1.2))]) (fun y => loopN (fun rr x => ref09Tree_b8 N c1 rr x.1 x.2) y.1 y.2.1 = some l1389) (fun y => y.1) (N, (0, []), (.slice none 0 0)) hx2791 (Sub.eq rfl ?_ ?_) ?_
     ·(repeat ((conv=>whnf);refine nr ?_));exact trivial
     ·(conv=>whnf);refine Need.mk (OLe.nil _ _ _ _) ?_;exact trivial
     ·rintro ⟨n38, ⟨n37, l1397⟩, hd2775⟩ hl22;obtain ⟨n38, rfl, hl22⟩ := loopN_some hl22;replace hl22 : ref09Tree_b8 N c1 (loopN (fun rr x => ref09Tree_b8 N c1 rr x.1 x.2) n38) n37 l1397 = some l1389 := hl22;rw [ref09Tree_b8] at hl22;(conv=>whnf);refine Br.mk (fun hc810 => ?_) (fun hc810 => ?_)
      ·replace hl22 := ite_t hc810 hl22;(conv=>whnf);intro b48;(conv=>whnf);refine sr ?_;obtain ⟨second24, hx2802, hl22⟩ := obind hl22;(conv=>whnf);refine SeqG.mk Unit (fun y => [(1, .d (.ref (.agg [.int .u8 c1.fForm, I c1.fPlayers, I c1.fGames, .list 3 (List.map Ref09Result.enc c1.fResults)]))), (3, .sl 43 hd2775), (4, .d (I n37)), (5, .ptr 5 b48 0)]) (fun y => [(43, .arr hd2775 54 4 false (List.map Ref09Pair.enc l1397)), (5, .cells b48 [.d (I second24.fPlayer), .d (I second24.fMatch)])]) (fun _ => True) ?_ ?_
       ·(conv=>whnf);refine Br.mk (fun hc814 => ?_) (fun hc814 => ?_)
        ·replace hx2802 := ite_t hc814 hx2802;(conv=>whnf);refine sr ?_;cases hx2802;(conv=>whnf);refine ⟨(), trivial, Sub.eq rfl ?_ ?_⟩
         ·(repeat ((conv=>whnf);refine nr ?_));exact trivial
         ·(conv=>whnf);refine no ?_;(conv=>whnf);refine no ?_;exact trivial
        ·replace hx2802 := ite_f hc814 hx2802;cases hx2802;(conv=>whnf);refine ⟨(), trivial, Sub.eq rfl ?_ ?_⟩
         ·(repeat ((conv=>whnf);refine nr ?_));exact trivial
         ·(conv=>whnf);refine no ?_;(conv=>whnf);refine no ?_;exact trivial
       ·rintro _ _;(conv=>whnf);refine sr ?_;(conv=>whnf);intro hd2778;obtain ⟨l1399, hx2803, hl22⟩ := obind hl22;(conv=>whnf);refine Side.mk ⟨rfl, rfl⟩ ?_;(conv=>whnf);refine Side.mk ⟨rfl, rfl, rfl⟩ (Need.mk (app_need hN hx2803 (by decide)) (Eqv.mk (List.map Ref09Pair.enc l1399) (app_map _ hx2803) ?_));(conv=>whnf);intro hd2779;(conv=>whnf);refine ⟨(n38, (w64 (n37 + 1), l1399), hd2779), hl22, Sub.eq rfl ?_ ?_, Nat.lt_succ_self _⟩
        ·(repeat ((conv=>whnf);refine nr ?_));exact trivial
        ·(conv=>whnf);refine no ?_;exact trivial
      ·replace hl22 := ite_f hc810 hl22;cases hl22;(conv=>whnf);refine ⟨hd2775, trivial, Sub.eq rfl ?_ ?_⟩
       ·(repeat ((conv=>whnf);refine nr ?_));exact trivial
       ·(conv=>whnf);refine no ?_;exact trivial
    ·rintro hd2763 _;(conv=>whnf);refine sr ?_;(conv=>whnf);cases h;exact rfl
   ·replace h := ite_f hc786 h;(conv=>whnf);refine ⟨(), h, Sub.eq rfl ?_ ?_⟩
    ·(repeat ((conv=>whnf);refine nr ?_));exact trivial
    ·exact trivial
  ·clear h;rintro _ h;unfold ref09Tree_k7 at h;obtain ⟨places5, hx26, h⟩ := obind h;(conv=>whnf);refine SeqG.mk Unit (fun y => [(1, .d (.ref (.agg [.int .u8 c1.fForm, I c1.fPlayers, I c1.fGames, .list 3 (List.map Ref09Result.enc c1.fResults)]))), (3, .nils 4), (6, .d (I places5))]) (fun y => []) (fun _ => True) ?_ ?_
   ·(conv=>whnf);refine LoopG.mk (Nat × Int) (fun y => [(1, .d (.ref (.agg [.int .u8 c1.fForm, I c1.fPlayers, I c1.fGames, .list 3 (List.map Ref09Result.enc c1.fResults)]))), (3, .nils 4), (6, .d (I y.2))]) (fun y => []) (fun y => loopN (fun rr x => ref09Tree_b2 N c1 rr x) y.1 y.2 = some places5) (fun y => y.1) (N, 1) hx26 (Sub.eq rfl ?_ ?_) ?_
    ·(repeat ((conv=>whnf);refine nr ?_));exact trivial
    ·exact trivial
    ·rintro ⟨n12, places9⟩ hl4;obtain ⟨n12, rfl, hl4⟩ := loopN_some hl4;replace hl4 : ref09Tree_b2 N c1 (loopN (fun rr x => ref09Tree_b2 N c1 rr x) n12) places9 = some places5 := hl4;rw [ref09Tree_b2] at hl4;(conv=>whnf);refine SeqG.mk Unit (fun y => [(1, .d (.ref (.agg [.int .u8 c1.fForm, I c1.fPlayers, I c1.fGames, .list 3 (List.map Ref09Result.enc c1.fResults)]))), (3, .nils 4), (6, .d (I places9))]) (fun y => []) (fun y => ref09Tree_k1 N places9 (loopN (fun rr x => ref09Tree_b2 N c1 rr x) n12) = some places5) ?_ ?_
     ·(conv=>whnf);refine Br.mk (fun hc41 => ?_) (fun hc41 => ?_)
      ·replace hl4 := ite_t hc41 hl4;(conv=>whnf);refine ⟨(), hl4, Sub.eq rfl ?_ ?_⟩
       ·(repeat ((conv=>whnf);refine nr ?_));exact trivial
       ·exact trivial
      ·replace hl4 := ite_f hc41 hl4;cases hl4;(conv=>whnf);refine ⟨(), trivial, Sub.eq rfl ?_ ?_⟩
       ·(repeat ((conv=>whnf);refine nr ?_));exact trivial
       ·exact trivial
     ·rintro _ h;unfold ref09Tree_k1 at h;(conv=>whnf);refine ⟨(n12, w64 (places9 * 2)), h, Sub.eq rfl ?_ ?_, Nat.lt_succ_self _⟩
      ·(repeat ((conv=>whnf);refine nr ?_));exact trivial
      ·exact trivial
   ·rintro _ _;obtain ⟨r2, hx28, h⟩ := obind h;(conv=>whnf);refine CallG.pure _ (ref09OrderC hN hx28) ?_;obtain ⟨⟨l48, l49⟩, hx50, h⟩ := obind h;(conv=>whnf);refine SeqG.mk (Value × Value) (fun y => [(3, .nils 4), (7, .sl 65 y.1), (8, .sl 75 y.2)]) (fun y => [(65, .arr y.1 52 2 false (List.map Ref09Side.enc l48)), (75, .arr y.2 4 1 false (List.map D.bool l49))]) (fun _ => True) ?_ ?_
    ·(conv=>whnf);refine LoopG.mk (Nat × (Int × (List Ref09Side) × (List Bool)) × Value × Value) (fun y => [(1, .d (.ref (.agg [.int .u8 c1.fForm, I c1.fPlayers, I c1.fGames, .list 3 (List.map Ref09Result.enc c1.fResults)]))), (3, .nils 4), (6, .d (I places5)), (7, .sl 65 y.2.2.1), (8, .sl 75 y.2.2.2), (9, .d (.list 1 (List.map I r2))), (10, .d (I y.2.1.1))]) (fun y => [(65, .arr y.2.2.1 52 2 false (List.map Ref09Side.enc y.2.1.2.1)), (75, .arr y.2.2.2 4 1 false (List.map D.bool y.2.1.2.2))]) (fun y => loopN (fun rr x => ref09Tree_b3 N c1 places5 r2 rr x.1 x.2.1 x.2.2) y.1 y.2.1 = some (l48, l49)) (fun y => y.1) (N, (0, [], []), (.slice none 0 0), (.slice none 0 0)) hx50 (Sub.eq rfl ?_ ?_) ?_
     ·(repeat ((conv=>whnf);refine nr ?_));exact trivial
     ·(conv=>whnf);refine Need.mk (OLe.nil _ _ _ _) ?_;(conv=>whnf);refine Need.mk (OLe.nil _ _ _ _) ?_;exact trivial
     ·rintro ⟨n14, ⟨i8, l68, l69⟩, hd250, hd251⟩ hl6;obtain ⟨n14, rfl, hl6⟩ := loopN_some hl6;replace hl6 : ref09Tree_b3 N c1 places5 r2 (loopN (fun rr x => ref09Tree_b3 N c1 places5 r2 rr x.1 x.2.1 x.2.2) n14) i8 l68 l69 = some (l48, l49) := hl6;rw [ref09Tree_b3] at hl6;(conv=>whnf);refine Br.mk (fun hc53 => ?_) (fun hc53 => ?_)
      ·replace hl6 := ite_t hc53 hl6;obtain ⟨⟨l72, l73⟩, hx68, hl6⟩ := obind hl6;(conv=>whnf);refine SeqG.mk (Value × Value) (fun y => [(1, .d (.ref (.agg [.int .u8 c1.fForm, I c1.fPlayers, I c1.fGames, .list 3 (List.map Ref09Result.enc c1.fResults)]))), (3, .nils 4), (6, .d (I places5)), (7, .sl 65 y.1), (8, .sl 75 y.2), (9, .d (.list 1 (List.map I r2))), (10, .d (I i8))]) (fun y => [(65, .arr y.1 52 2 false (List.map Ref09Side.enc l72)), (75, .arr y.2 4 1 false (List.map D.bool l73))]) (fun _ => True) ?_ ?_
       ·obtain ⟨x12, hx69, hx68⟩ := obind hx68;obtain ⟨l74, hx70, hx68⟩ := obind hx68;obtain ⟨l75, hx71, hx68⟩ := obind hx68;(conv=>whnf)
        refine DrawG.mk (.take 0 (.take 1 (.take 2 (.take 3 (.take 4 (.take 8 (.take 9 (.take 10 (.take 11 (.take 12 (.take 13 (.take 14 (.take 15 (.alt 5 [15, 14, 13, 12, 11, 10, 9, 8, 3, 2, 1, 0] (.alt 6 [15, 14, 13, 12, 11, 10, 9, 8, 3, 2, 1, 0] (.alt 7 [15, 14, 13, 12, 11, 10, 9, 8, 3, 2, 1] (.alt 16 [14, 13, 12, 11, 10, 9, 8, 3, 2, 1] (.alt 17 [14, 13, 12, 11, 10, 9, 3, 2, 1] (.take 18 (.take 19 .done)) .nil) .nil) (.alt 16 [14, 13, 12, 11, 10, 9, 8, 3, 2, 1, 0] (.alt 7 [14, 13, 12, 11, 10, 9, 8, 3, 2, 1] (.alt 17 [14, 13, 12, 11, 10, 9, 3, 2, 1] (.take 18 (.take 19 .done)) .nil) .nil) .nil)) (.alt 16 [14, 13, 12, 11, 10, 9, 8, 3, 2, 1, 0] (.alt 6 [14, 13, 12, 11, 10, 9, 8, 3, 2, 1, 0] (.alt 7 [14, 13, 12, 11, 10, 9, 8, 3, 2, 1] (.alt 17 [14, 13, 12, 11, 10, 9, 3, 2, 1] (.take 18 (.take 19 .done)) .nil) .nil) .nil) .nil)) (.alt 16 [14, 13, 12, 11, 10, 9, 8, 4, 3, 2, 1, 0] (.alt 5 [14, 13, 12, 11, 10, 9, 8, 3, 2, 1, 0] (.alt 6 [14, 13, 12, 11, 10, 9, 8, 3, 2, 1, 0] (.alt 7 [14, 13, 12, 11, 10, 9, 8, 3, 2, 1] (.alt 17 [14, 13, 12, 11, 10, 9, 3, 2, 1] (.take 18 (.take 19 .done)) .nil) .nil) .nil) .nil) .nil))))))))))))))) (by kernel_rfl) ?_
        (conv=>whnf);refine Side.mk rfl ⟨_, idx_0 hx69, idx_map _ hx69, ?_⟩;(conv=>whnf);refine Side.mk rfl ⟨_, idx_0 hx69, idx_map _ hx69, ?_⟩;(conv=>whnf);refine Both.mk ?_ ?_
        ·(conv=>whnf);refine nl ?_;(conv=>whnf);refine nl ?_;(conv=>whnf);refine nl ?_;(conv=>whnf);refine nl ?_;(conv=>whnf);refine Side.mk rfl ⟨_, idx_0 hx69, idx_map _ hx69, ?_⟩;(conv=>whnf);refine nl ?_;(conv=>whnf);refine nl ?_;(conv=>whnf);refine nl ?_;(conv=>whnf);refine nl ?_;(conv=>whnf);refine Side.mk rfl ⟨_, idx_0 hx69, idx_map _ hx69, ?_⟩;(conv=>whnf);refine nl ?_;(conv=>whnf);refine nl ?_;(conv=>whnf);refine nl ?_;(conv=>whnf);refine nl ?_;(conv=>whnf);refine Both.mk ?_ ?_
         ·(conv=>whnf);intro hd277;(conv=>whnf);refine nl ?_;(conv=>whnf);refine nl ?_;(conv=>whnf);refine nl ?_;(conv=>whnf);refine nl ?_;(conv=>whnf);refine Side.mk rfl ⟨_, idx_0 hx69, idx_map _ hx69, ?_⟩;(conv=>whnf);refine nl ?_;(conv=>whnf);refine nl ?_;(conv=>whnf);refine nl ?_;(conv=>whnf);refine nl ?_;(conv=>whnf);refine Side.mk rfl ⟨_, idx_0 hx69, idx_map _ hx69, ?_⟩;(conv=>whnf);refine nl ?_;(conv=>whnf);refine nl ?_;(conv=>whnf);refine nl ?_;(conv=>whnf);refine nl ?_;(conv=>whnf);refine Both.mk ?_ ?_
          ·(conv=>whnf);refine Side.mk ⟨rfl, rfl⟩ ?_;(conv=>whnf);refine Side.mk ⟨rfl, rfl, rfl⟩ (Need.mk (app_need hN hx70 (by decide)) (Eqv.mk (List.map Ref09Side.enc l74) (app_map _ hx70) ?_));(conv=>whnf);intro hd278;(conv=>whnf);refine nl ?_;(conv=>whnf);refine nl ?_;(conv=>whnf);refine nl ?_;(conv=>whnf);refine nl ?_;(conv=>whnf);refine Side.mk rfl ⟨_, idx_0 hx69, idx_map _ hx69, ?_⟩;(conv=>whnf);refine nl ?_;(conv=>whnf);refine nl ?_;(conv=>whnf);refine nl ?_;(conv=>whnf);refine nl ?_;(conv=>whnf);refine Side.mk rfl ⟨_, idx_0 hx69, idx_map _ hx69, ?_⟩;(conv=>whnf);refine nl ?_;(conv=>whnf);refine nl ?_;(conv=>whnf);refine nl ?_;(conv=>whnf);refine Both.mk ?_ trivial;(conv=>whnf);intro hd279;(conv=>whnf);refine nl ?_;(conv=>whnf);refine nl ?_;(conv=>whnf);refine nl ?_;(conv=>whnf);refine Side.mk rfl ⟨_, idx_0 hx69, idx_map _ hx69, ?_⟩;(conv=>whnf);refine nl ?_;(conv=>whnf)
           refine nl ?_;(conv=>whnf);refine nl ?_;(conv=>whnf);refine nl ?_;(conv=>whnf);refine Side.mk rfl ⟨_, idx_0 hx69, idx_map _ hx69, ?_⟩;(conv=>whnf);refine nl ?_;(conv=>whnf);refine nl ?_;(conv=>whnf);refine nl ?_;(conv=>whnf);refine Both.mk ?_ trivial;(conv=>whnf);refine Side.mk ⟨rfl, rfl⟩ ?_;(conv=>whnf);refine Side.mk ⟨rfl, rfl, rfl⟩ (Need.mk (app_need hN hx71 (by decide)) (Eqv.mk (List.map D.bool l75) (app_map _ hx71) ?_));(conv=>whnf);intro hd280;(conv=>whnf);refine nl ?_;(conv=>whnf);refine nl ?_;(conv=>whnf);refine nl ?_;(conv=>whnf);refine Side.mk rfl ⟨_, idx_0 hx69, idx_map _ hx69, ?_⟩;(conv=>whnf);refine nl ?_;(conv=>whnf);refine nl ?_;(conv=>whnf);refine nl ?_;(conv=>whnf);refine Side.mk rfl ⟨_, idx_0 hx69, idx_map _ hx69, ?_⟩;(conv=>whnf);refine nl ?_;(conv=>whnf);refine nl ?_;(conv=>whnf);refine nl ?_;cases hx68;(conv=>whnf)
           refine ⟨(hd278, hd280), trivial, Sub.eq rfl ?_ ?_⟩
           ·(repeat ((conv=>whnf);refine nr ?_));exact trivial
           ·(conv=>whnf);refine no ?_;(conv=>whnf);refine no ?_;exact trivial
          ·(conv=>whnf);refine Both.mk ?_ trivial;(conv=>whnf);intro hd281;(conv=>whnf);refine nl ?_;(conv=>whnf);refine nl ?_;(conv=>whnf);refine nl ?_;(conv=>whnf);refine Side.mk rfl ⟨_, idx_0 hx69, idx_map _ hx69, ?_⟩;(conv=>whnf);refine nl ?_;(conv=>whnf);refine nl ?_;(conv=>whnf);refine nl ?_;(conv=>whnf);refine nl ?_;(conv=>whnf);refine Side.mk rfl ⟨_, idx_0 hx69, idx_map _ hx69, ?_⟩;(conv=>whnf);refine nl ?_;(conv=>whnf);refine nl ?_;(conv=>whnf);refine nl ?_;(conv=>whnf);refine nl ?_;(conv=>whnf);refine Both.mk ?_ trivial;(conv=>whnf);refine Side.mk ⟨rfl, rfl⟩ ?_;(conv=>whnf);refine Side.mk ⟨rfl, rfl, rfl⟩ (Need.mk (app_need hN hx70 (by decide)) (Eqv.mk (List.map Ref09Side.enc l74) (app_map _ hx70) ?_));(conv=>whnf);intro hd282;(conv=>whnf);refine nl ?_;(conv=>whnf);refine nl ?_;(conv=>whnf);refine nl ?_;(conv=>whnf);refine Side.mk rfl ⟨_, idx_0 hx69, idx_map _ hx69, ?_⟩
           (conv=>whnf);refine nl ?_;(conv=>whnf);refine nl ?_;(conv=>whnf);refine nl ?_;(conv=>whnf);refine nl ?_;(conv=>whnf);refine Side.mk rfl ⟨_, idx_0 hx69, idx_map _ hx69, ?_⟩;(conv=>whnf);refine nl ?_;(conv=>whnf);refine nl ?_;(conv=>whnf);refine nl ?_;(conv=>whnf);refine Both.mk ?_ trivial;(conv=>whnf);refine Side.mk ⟨rfl, rfl⟩ ?_;(conv=>whnf);refine Side.mk ⟨rfl, rfl, rfl⟩ (Need.mk (app_need hN hx71 (by decide)) (Eqv.mk (List.map D.bool l75) (app_map _ hx71) ?_));(conv=>whnf);intro hd283;(conv=>whnf);refine nl ?_;(conv=>whnf);refine nl ?_;(conv=>whnf);refine nl ?_;(conv=>whnf);refine Side.mk rfl ⟨_, idx_0 hx69, idx_map _ hx69, ?_⟩;(conv=>whnf);refine nl ?_;(conv=>whnf);refine nl ?_;(conv=>whnf);refine nl ?_;(conv=>whnf);refine Side.mk rfl ⟨_, idx_0 hx69, idx_map _ hx69, ?_⟩;(conv=>whnf);refine nl ?_;(conv=>whnf);refine nl ?_;(conv=>whnf);refine nl ?_;cases hx68;(conv=>whnf)
           refine ⟨(hd282, hd283), trivial, Sub.eq rfl ?_ ?_⟩
           ·(repeat ((conv=>whnf);refine nr ?_));exact trivial
           ·(conv=>whnf);refine no ?_;(conv=>whnf);refine no ?_;exact trivial
         ·(conv=>whnf);refine Both.mk ?_ trivial;(conv=>whnf);intro hd284;(conv=>whnf);refine nl ?_;(conv=>whnf);refine nl ?_;(conv=>whnf);refine nl ?_;(conv=>whnf);refine Side.mk rfl ⟨_, idx_0 hx69, idx_map _ hx69, ?_⟩;(conv=>whnf);refine nl ?_;(conv=>whnf);refine nl ?_;(conv=>whnf);refine nl ?_;(conv=>whnf);refine nl ?_;(conv=>whnf);refine Side.mk rfl ⟨_, idx_0 hx69, idx_map _ hx69, ?_⟩;(conv=>whnf);refine nl ?_;(conv=>whnf);refine nl ?_;(conv=>whnf);refine nl ?_;(conv=>whnf);refine nl ?_;(conv=>whnf);refine Both.mk ?_ trivial;(conv=>whnf);intro hd285;(conv=>whnf);refine nl ?_;(conv=>whnf);refine nl ?_;(conv=>whnf);refine nl ?_;(conv=>whnf);refine Side.mk rfl ⟨_, idx_0 hx69, idx_map _ hx69, ?_⟩;(conv=>whnf);refine nl ?_;(conv=>whnf);refine nl ?_;(conv=>whnf);refine nl ?_;(conv=>whnf);refine nl ?_;(conv=>whnf);refine Side.mk rfl ⟨_, idx_0 hx69, idx_map _ hx69, ?_⟩;(conv=>whnf)
          refine nl ?_;(conv=>whnf);refine nl ?_;(conv=>whnf);refine nl ?_;(conv=>whnf);refine nl ?_;(conv=>whnf);refine Both.mk ?_ trivial;(conv=>whnf);refine Side.mk ⟨rfl, rfl⟩ ?_;(conv=>whnf);refine Side.mk ⟨rfl, rfl, rfl⟩ (Need.mk (app_need hN hx70 (by decide)) (Eqv.mk (List.map Ref09Side.enc l74) (app_map _ hx70) ?_));(conv=>whnf);intro hd286;(conv=>whnf);refine nl ?_;(conv=>whnf);refine nl ?_;(conv=>whnf);refine nl ?_;(conv=>whnf);refine Side.mk rfl ⟨_, idx_0 hx69, idx_map _ hx69, ?_⟩;(conv=>whnf);refine nl ?_;(conv=>whnf);refine nl ?_;(conv=>whnf);refine nl ?_;(conv=>whnf);refine nl ?_;(conv=>whnf);refine Side.mk rfl ⟨_, idx_0 hx69, idx_map _ hx69, ?_⟩;(conv=>whnf);refine nl ?_;(conv=>whnf);refine nl ?_;(conv=>whnf);refine nl ?_;(conv=>whnf);refine Both.mk ?_ trivial;(conv=>whnf);refine Side.mk ⟨rfl, rfl⟩ ?_;(conv=>whnf)
          refine Side.mk ⟨rfl, rfl, rfl⟩ (Need.mk (app_need hN hx71 (by decide)) (Eqv.mk (List.map D.bool l75) (app_map _ hx71) ?_));(conv=>whnf);intro hd287;(conv=>whnf);refine nl ?_;(conv=>whnf);refine nl ?_;(conv=>whnf);refine nl ?_;(conv=>whnf);refine Side.mk rfl ⟨_, idx_0 hx69, idx_map _ hx69, ?_⟩;(conv=>whnf);refine nl ?_;(conv=>whnf);refine nl ?_;(conv=>whnf);refine nl ?_;(conv=>whnf);refine Side.mk rfl ⟨_, idx_0 hx69, idx_map _ hx69, ?_⟩;(conv=>whnf);refine nl ?_;(conv=>whnf);refine nl ?_;(conv=>whnf);refine nl ?_;cases hx68;(conv=>whnf);refine ⟨(hd286, hd287), trivial, Sub.eq rfl ?_ ?_⟩
          ·(repeat ((conv=>whnf);refine nr ?_));exact trivial
          ·(conv=>whnf);refine no ?_;(conv=>whnf);refine no ?_;exact trivial
        ·(conv=>whnf);refine Both.mk ?_ trivial;(conv=>whnf);intro hd288;(conv=>whnf);refine nl ?_;(conv=>whnf);refine nl ?_;(conv=>whnf);refine nl ?_;(conv=>whnf);refine Side.mk rfl ⟨_, idx_0 hx69, idx_map _ hx69, ?_⟩;(conv=>whnf);refine nl ?_;(conv=>whnf);refine nl ?_;(conv=>whnf);refine nl ?_;(conv=>whnf);refine nl ?_;(conv=>whnf);refine nl ?_;(conv=>whnf);refine Side.mk rfl ⟨_, idx_0 hx69, idx_map _ hx69, ?_⟩;(conv=>whnf);refine nl ?_;(conv=>whnf);refine nl ?_;(conv=>whnf);refine nl ?_;(conv=>whnf);refine nl ?_;(conv=>whnf);refine Both.mk ?_ trivial;(conv=>whnf);refine nl ?_;(conv=>whnf);refine nl ?_;(conv=>whnf);refine nl ?_;(conv=>whnf);refine Side.mk rfl ⟨_, idx_0 hx69, idx_map _ hx69, ?_⟩;(conv=>whnf);refine nl ?_;(conv=>whnf);refine nl ?_;(conv=>whnf);refine nl ?_;(conv=>whnf);refine nl ?_;(conv=>whnf);refine Side.mk rfl ⟨_, idx_0 hx69, idx_map _ hx69, ?_⟩;(conv=>whnf)
         refine nl ?_;(conv=>whnf);refine nl ?_;(conv=>whnf);refine nl ?_;(conv=>whnf);refine nl ?_;(conv=>whnf);refine Both.mk ?_ trivial;(conv=>whnf);intro hd289;(conv=>whnf);refine nl ?_;(conv=>whnf);refine nl ?_;(conv=>whnf);refine nl ?_;(conv=>whnf);refine Side.mk rfl ⟨_, idx_0 hx69, idx_map _ hx69, ?_⟩;(conv=>whnf);refine nl ?_;(conv=>whnf);refine nl ?_;(conv=>whnf);refine nl ?_;(conv=>whnf);refine nl ?_;(conv=>whnf);refine Side.mk rfl ⟨_, idx_0 hx69, idx_map _ hx69, ?_⟩;(conv=>whnf);refine nl ?_;(conv=>whnf);refine nl ?_;(conv=>whnf);refine nl ?_;(conv=>whnf);refine nl ?_;(conv=>whnf);refine Both.mk ?_ trivial;(conv=>whnf);refine Side.mk ⟨rfl, rfl⟩ ?_;(conv=>whnf);refine Side.mk ⟨rfl, rfl, rfl⟩ (Need.mk (app_need hN hx70 (by decide)) (Eqv.mk (List.map Ref09Side.enc l74) (app_map _ hx70) ?_));(conv=>whnf);intro hd290;(conv=>whnf);refine nl ?_;(conv=>whnf);refine nl ?_;(conv=>whnf)
         refine nl ?_;(conv=>whnf);refine Side.mk rfl ⟨_, idx_0 hx69, idx_map _ hx69, ?_⟩;(conv=>whnf);refine nl ?_;(conv=>whnf);refine nl ?_;(conv=>whnf);refine nl ?_;(conv=>whnf);refine nl ?_;(conv=>whnf);refine Side.mk rfl ⟨_, idx_0 hx69, idx_map _ hx69, ?_⟩;(conv=>whnf);refine nl ?_;(conv=>whnf);refine nl ?_;(conv=>whnf);refine nl ?_;(conv=>whnf);refine Both.mk ?_ trivial;(conv=>whnf);refine Side.mk ⟨rfl, rfl⟩ ?_;(conv=>whnf);refine Side.mk ⟨rfl, rfl, rfl⟩ (Need.mk (app_need hN hx71 (by decide)) (Eqv.mk (List.map D.bool l75) (app_map _ hx71) ?_));(conv=>whnf);intro hd291;(conv=>whnf);refine nl ?_;(conv=>whnf);refine nl ?_;(conv=>whnf);refine nl ?_;(conv=>whnf);refine Side.mk rfl ⟨_, idx_0 hx69, idx_map _ hx69, ?_⟩;(conv=>whnf);refine nl ?_;(conv=>whnf);refine nl ?_;(conv=>whnf);refine nl ?_;(conv=>whnf);refine Side.mk rfl ⟨_, idx_0 hx69, idx_map _ hx69, ?_⟩;(conv=>whnf);refine nl ?_
         (conv=>whnf);refine nl ?_;(conv=>whnf);refine nl ?_;cases hx68;(conv=>whnf);refine ⟨(hd290, hd291), trivial, Sub.eq rfl ?_ ?_⟩
         ·(repeat ((conv=>whnf);refine nr ?_));exact trivial
         ·(conv=>whnf);refine no ?_;(conv=>whnf);refine no ?_;exact trivial
       ·rintro ⟨hd271, hd272⟩ _;(conv=>whnf);refine ⟨(n14, (w64 (i8 + 1), l72, l73), hd271, hd272), hl6, Sub.eq rfl ?_ ?_, Nat.lt_succ_self _⟩
        ·(repeat ((conv=>whnf);refine nr ?_));exact trivial
        ·(conv=>whnf);refine no ?_;(conv=>whnf);refine no ?_;exact trivial
      ·replace hl6 := ite_f hc53 hl6;cases hl6;(conv=>whnf);refine ⟨(hd250, hd251), trivial, Sub.eq rfl ?_ ?_⟩
       ·(repeat ((conv=>whnf);refine nr ?_));exact trivial
       ·(conv=>whnf);refine no ?_;(conv=>whnf);refine no ?_;exact trivial
    ·rintro ⟨hd162, hd163⟩ _;obtain ⟨l727, hx1425, h⟩ := obind h;(conv=>whnf);refine SeqG.mk Value (fun y => [(3, .sl 123 y)]) (fun y => [(123, .arr y 54 4 false (List.map Ref09Pair.enc l727))]) (fun _ => True) ?_ ?_
     ·(conv=>whnf);refine LoopG.mk (Nat × ((List Ref09Pair) × (List Ref09Side) × (List Bool)) × Value × Value × Value) (fun y => [(3, .sl 123 y.2.2.1), (7, .sl 65 y.2.2.2.1), (8, .sl 75 y.2.2.2.2)]) (fun y => [(123, .arr y.2.2.1 54 4 false (List.map Ref09Pair.enc y.2.1.1)), (65, .arr y.2.2.2.1 52 2 false (List.map Ref09Side.enc y.2.1.2.1)), (75, .arr y.2.2.2.2 4 1 false (List.map D.bool y.2.1.2.2))]) (fun y => loopN (fun rr x => ref09Tree_b6 N rr x.1 x.2.1 x.2.2) y.1 y.2.1 = some l727) (fun y => y.1) (N, ([], l48, l49), (.slice none 0 0), hd162, hd163) hx1425 (Sub.eq rfl ?_ ?_) ?_
      ·(repeat ((conv=>whnf);refine nr ?_));exact trivial
      ·(conv=>whnf);refine Need.mk (OLe.nil _ _ _ _) ?_;(conv=>whnf);refine no ?_;(conv=>whnf);refine no ?_;exact trivial
      ·rintro ⟨n26, ⟨l1163, l1164, l1165⟩, hd2339, hd2340, hd2341⟩ hl18;obtain ⟨n26, rfl, hl18⟩ := loopN_some hl18;replace hl18 : ref09Tree_b6 N (loopN (fun rr x => ref09Tree_b6 N rr x.1 x.2.1 x.2.2) n26) l1163 l1164 l1165 = some l727 := hl18;rw [ref09Tree_b6] at hl18;(conv=>whnf);refine SeqG.mk Unit (fun y => [(3, .sl 123 hd2339), (7, .sl 65 hd2340), (8, .sl 75 hd2341)]) (fun y => [(123, .arr hd2339 54 4 false (List.map Ref09Pair.enc l1163)), (65, .arr hd2340 52 2 false (List.map Ref09Side.enc l1164)), (75, .arr hd2341 4 1 false (List.map D.bool l1165))]) (fun y => ref09Tree_k5 N l1163 l1164 l1165 (loopN (fun rr x => ref09Tree_b6 N rr x.1 x.2.1 x.2.2) n26) = some l727) ?_ ?_
       ·(conv=>whnf);refine Side.mk rfl (LnA.mk _ (List.length_map _) ?_);(conv=>whnf);refine Br.mk (fun hc785 => ?_) (fun hc785 => ?_)
        ·replace hl18 := ite_t hc785 hl18;(conv=>whnf);refine ⟨(), hl18, Sub.eq rfl ?_ ?_⟩
         ·(repeat ((conv=>whnf);refine nr ?_));exact trivial
         ·(conv=>whnf);refine no ?_;(conv=>whnf);refine no ?_;(conv=>whnf);refine no ?_;exact trivial
        ·replace hl18 := ite_f hc785 hl18;cases hl18;(conv=>whnf);refine ⟨hd2339, trivial, Sub.eq rfl ?_ ?_⟩
         ·(repeat ((conv=>whnf);refine nr ?_));exact trivial
         ·(conv=>whnf);refine no ?_;exact trivial
       ·rintro _ h;unfold ref09Tree_k5 at h;obtain ⟨⟨l1271, l1272, l1273⟩, hx2553, h⟩ := obind h;(conv=>whnf);refine SeqG.mk (Value × Value × Value) (fun y => [(3, .sl 123 y.1), (11, .sl 110 y.2.1), (12, .sl 149 y.2.2)]) (fun y => [(123, .arr y.1 54 4 false (List.map Ref09Pair.enc l1271)), (110, .arr y.2.1 52 2 false (List.map Ref09Side.enc l1272)), (149, .arr y.2.2 4 1 false (List.map D.bool l1273))]) (fun _ => True) ?_ ?_
        ·(conv=>whnf);refine LoopG.mk (Nat × (Int × (List Ref09Pair) × (List Ref09Side) × (List Bool)) × Value × Value × Value) (fun y => [(3, .sl 123 y.2.2.1), (7, .sl 65 hd2340), (8, .sl 75 hd2341), (11, .sl 110 y.2.2.2.1), (12, .sl 149 y.2.2.2.2), (13, .d (I y.2.1.1))]) (fun y => [(123, .arr y.2.2.1 54 4 false (List.map Ref09Pair.enc y.2.1.2.1)), (65, .arr hd2340 52 2 false (List.map Ref09Side.enc l1164)), (75, .arr hd2341 4 1 false (List.map D.bool l1165)), (110, .arr y.2.2.2.1 52 2 false (List.map Ref09Side.enc y.2.1.2.2.1)), (149, .arr y.2.2.2.2 4 1 false (List.map D.bool y.2.1.2.2.2))]) (fun y => loopN (fun rr x => ref09Tree_b4 N l1164 l1165 rr x.1 x.2.1 x.2.2.1 x.2.2.2) y.1 y.2.1 = some (l1271, l1272, l1273)) (fun y => y.1) (N, (0, l1163, [], []), hd2339, (.slice none 0 0), (.slice none 0 0)) hx2553 (Sub.eq rfl ?_ ?_) ?_
         ·(repeat ((conv=>whnf);refine nr ?_));exact trivial
         ·(conv=>whnf);refine no ?_;(conv=>whnf);refine no ?_;(conv=>whnf);refine no ?_;(conv=>whnf);refine Need.mk (OLe.nil _ _ _ _) ?_;(conv=>whnf);refine Need.mk (OLe.nil _ _ _ _) ?_;exact trivial
         ·rintro ⟨n28, ⟨i56, l1345, l1346, l1347⟩, hd2681, hd2682, hd2683⟩ hl20;obtain ⟨n28, rfl, hl20⟩ := loopN_some hl20;replace hl20 : ref09Tree_b4 N l1164 l1165 (loopN (fun rr x => ref09Tree_b4 N l1164 l1165 rr x.1 x.2.1 x.2.2.1 x.2.2.2) n28) i56 l1345 l1346 l1347 = some (l1271, l1272, l1273) := hl20;rw [ref09Tree_b4] at hl20;(conv=>whnf);refine Side.mk rfl (LnA.mk _ (List.length_map _) ?_);(conv=>whnf);refine Br.mk (fun hc766 => ?_) (fun hc766 => ?_)
          ·replace hl20 := ite_t hc766 hl20;obtain ⟨⟨l1362, l1363, l1364⟩, hx2741, hl20⟩ := obind hl20;(conv=>whnf);refine SeqG.mk (Value × Value × Value) (fun y => [(3, .sl 123 y.1), (7, .sl 65 hd2340), (8, .sl 75 hd2341), (11, .sl 110 y.2.1), (12, .sl 149 y.2.2), (13, .d (I i56))]) (fun y => [(123, .arr y.1 54 4 false (List.map Ref09Pair.enc l1362)), (65, .arr hd2340 52 2 false (List.map Ref09Side.enc l1164)), (75, .arr hd2341 4 1 false (List.map D.bool l1165)), (110, .arr y.2.1 52 2 false (List.map Ref09Side.enc l1363)), (149, .arr y.2.2 4 1 false (List.map D.bool l1364))]) (fun _ => True) ?_ ?_
           ·obtain ⟨⟨l1370, l1371⟩, hx2758, hx2741⟩ := obind hx2741;(conv=>whnf);refine SeqG.mk (Value × Value) (fun y => [(3, .sl 123 y.1), (7, .sl 65 hd2340), (8, .sl 75 hd2341), (11, .sl 110 y.2), (12, .sl 149 hd2683), (13, .d (I i56))]) (fun y => [(123, .arr y.1 54 4 false (List.map Ref09Pair.enc l1370)), (65, .arr hd2340 52 2 false (List.map Ref09Side.enc l1164)), (75, .arr hd2341 4 1 false (List.map D.bool l1165)), (110, .arr y.2 52 2 false (List.map Ref09Side.enc l1371)), (149, .arr hd2683 4 1 false (List.map D.bool l1347))]) (fun _ => True) ?_ ?_
            ·obtain ⟨v144, hx2761, hx2758⟩ := obind hx2758;(conv=>whnf);refine SeqG.mk Unit (fun y => [(3, .sl 123 hd2681), (7, .sl 65 hd2340), (8, .sl 75 hd2341), (11, .sl 110 hd2682), (12, .sl 149 hd2683), (13, .d (I i56)), (93, .d (.bool v144))]) (fun y => [(123, .arr hd2681 54 4 false (List.map Ref09Pair.enc l1345)), (65, .arr hd2340 52 2 false (List.map Ref09Side.enc l1164)), (75, .arr hd2341 4 1 false (List.map D.bool l1165)), (110, .arr hd2682 52 2 false (List.map Ref09Side.enc l1346)), (149, .arr hd2683 4 1 false (List.map D.bool l1347))]) (fun _ => True) ?_ ?_
             ·obtain ⟨x1587, hx2762, hx2761⟩ := obind hx2761;(conv=>whnf);refine Side.mk ⟨rfl, rfl⟩ (Need.mk (idx_need _ hx2762) ?_);(conv=>whnf);refine Side.mk ⟨rfl, rfl⟩ ⟨_, Int.natCast_nonneg _, idx_el _ hx2762, ?_⟩;(conv=>whnf);refine Br.mk (fun hc781 => ?_) (fun hc781 => ?_)
              ·replace hx2761 := ite_t hc781 hx2761;obtain ⟨x1588, hx2763, hx2761⟩ := obind hx2761;(conv=>whnf);refine Side.mk ⟨rfl, rfl⟩ (Need.mk (idx_need _ hx2763) ?_);(conv=>whnf);refine Side.mk ⟨rfl, rfl⟩ ⟨_, Int.natCast_nonneg _, idx_el _ hx2763, ?_⟩;cases hx2761;(conv=>whnf);refine ⟨(), trivial, Sub.eq rfl ?_ ?_⟩
               ·(repeat ((conv=>whnf);refine nr ?_));exact trivial
               ·(conv=>whnf);refine no ?_;(conv=>whnf);refine no ?_;(conv=>whnf);refine no ?_;(conv=>whnf);refine no ?_;(conv=>whnf);refine no ?_;exact trivial
              ·replace hx2761 := ite_f hc781 hx2761;cases hx2761;(conv=>whnf);refine ⟨(), trivial, Sub.eq rfl ?_ ?_⟩
               ·(repeat ((conv=>whnf);refine nr ?_));exact trivial
               ·(conv=>whnf);refine no ?_;(conv=>whnf);refine no ?_;(conv=>whnf);refine no ?_;(conv=>whnf);refine no ?_;(conv=>whnf);refine no ?_;exact trivial
             ·rintro _ _;(conv=>whnf);refine Br.mk (fun hc782 => ?_) (fun hc782 => ?_)
              ·replace hx2758 := ite_t hc782 hx2758;(conv=>whnf);refine Side.mk rfl (LnA.mk _ (List.length_map _) ?_);(conv=>whnf);intro hd2733;obtain ⟨l1373, hx2765, hx2758⟩ := obind hx2758;(conv=>whnf);refine Side.mk ⟨rfl, rfl⟩ ?_;(conv=>whnf);refine Side.mk ⟨rfl, rfl, rfl⟩ (Need.mk (app_need hN hx2765 (by decide)) (Eqv.mk (List.map Ref09Side.enc l1373) (app_map _ hx2765) ?_));(conv=>whnf);intro hd2734;obtain ⟨x1589, hx2766, hx2758⟩ := obind hx2758;obtain ⟨x1590, hx2767, hx2758⟩ := obind hx2758;obtain ⟨l1374, hx2768, hx2758⟩ := obind hx2758;(conv=>whnf);refine DrawG.mk (.take 0 (.take 1 (.take 2 (.take 3 (.take 4 (.take 5 (.take 6 (.take 7 (.take 8 (.take 9 (.alt 10 [8, 7, 6, 5, 3, 2, 1, 0] (.alt 11 [8, 7, 6, 5, 3, 2, 1, 0] (.alt 12 [8, 7, 6, 5, 3, 2, 1] (.take 13 .done) .nil) .nil) .nil))))))))))) (by kernel_rfl) ?_;(conv=>whnf)
               refine Side.mk ⟨rfl, rfl⟩ (Need.mk (idx_need _ hx2766) ?_);(conv=>whnf);refine Side.mk ⟨rfl, rfl⟩ ⟨_, Int.natCast_nonneg _, idx_el _ hx2766, ?_⟩;(conv=>whnf);refine Side.mk ⟨rfl, rfl⟩ (Need.mk (idx_need _ hx2767) ?_);(conv=>whnf);refine Side.mk ⟨rfl, rfl⟩ ⟨_, Int.natCast_nonneg _, idx_el _ hx2767, ?_⟩;(conv=>whnf);refine Both.mk ?_ trivial;(conv=>whnf);refine Side.mk ⟨rfl, rfl⟩ (Need.mk (idx_need _ hx2767) ?_);(conv=>whnf);refine nl ?_;(conv=>whnf);refine nl ?_;(conv=>whnf);refine nl ?_;(conv=>whnf);refine nl ?_;(conv=>whnf);refine Side.mk ⟨rfl, rfl⟩ (Need.mk (idx_need _ hx2766) ?_);(conv=>whnf);refine nl ?_;(conv=>whnf);refine nl ?_;(conv=>whnf);refine nl ?_;(conv=>whnf);refine nl ?_;(conv=>whnf);refine Both.mk ?_ trivial;(conv=>whnf);intro hd2737;(conv=>whnf);refine Side.mk ⟨rfl, rfl⟩ (Need.mk (idx_need _ hx2767) ?_);(conv=>whnf);refine nl ?_;(conv=>whnf);refine nl ?_
               (conv=>whnf);refine nl ?_;(conv=>whnf);refine nl ?_;(conv=>whnf);refine Side.mk ⟨rfl, rfl⟩ (Need.mk (idx_need _ hx2766) ?_);(conv=>whnf);refine nl ?_;(conv=>whnf);refine nl ?_;(conv=>whnf);refine nl ?_;(conv=>whnf);refine nl ?_;(conv=>whnf);refine Both.mk ?_ trivial;(conv=>whnf);refine Side.mk ⟨rfl, rfl⟩ ?_;(conv=>whnf);refine Side.mk ⟨rfl, rfl, rfl⟩ (Need.mk (app_need hN hx2768 (by decide)) (Eqv.mk (List.map Ref09Pair.enc l1374) (app_map _ hx2768) ?_));(conv=>whnf);intro hd2738;(conv=>whnf);refine Side.mk ⟨rfl, rfl⟩ (Need.mk (idx_need _ hx2767) ?_);(conv=>whnf);refine nl ?_;(conv=>whnf);refine nl ?_;(conv=>whnf);refine nl ?_;(conv=>whnf);refine nl ?_;(conv=>whnf);refine Side.mk ⟨rfl, rfl⟩ (Need.mk (idx_need _ hx2766) ?_);(conv=>whnf);refine nl ?_;(conv=>whnf);refine nl ?_;(conv=>whnf);refine nl ?_;cases hx2758;(conv=>whnf)
               refine ⟨(hd2738, hd2734), trivial, Sub.eq rfl ?_ ?_⟩
               ·(repeat ((conv=>whnf);refine nr ?_));exact trivial
               ·(conv=>whnf);refine no ?_;(conv=>whnf);refine no ?_;(conv=>whnf);refine no ?_;(conv=>whnf);refine no ?_;(conv=>whnf);refine no ?_;exact trivial
              ·replace hx2758 := ite_f hc782 hx2758;obtain ⟨x1592, hx2770, hx2758⟩ := obind hx2758;(conv=>whnf);refine Side.mk ⟨rfl, rfl⟩ (Need.mk (idx_need _ hx2770) ?_);(conv=>whnf);refine Side.mk ⟨rfl, rfl⟩ ⟨_, Int.natCast_nonneg _, idx_el _ hx2770, ?_⟩;(conv=>whnf);refine Br.mk (fun hc783 => ?_) (fun hc783 => ?_)
               ·replace hx2758 := ite_t hc783 hx2758;obtain ⟨x1593, hx2771, hx2758⟩ := obind hx2758;(conv=>whnf);refine Side.mk ⟨rfl, rfl⟩ (Need.mk (idx_need _ hx2771) ?_);(conv=>whnf);refine Side.mk ⟨rfl, rfl⟩ ⟨_, Int.natCast_nonneg _, idx_el _ hx2771, ?_⟩;(conv=>whnf);intro hd2739;obtain ⟨l1375, hx2772, hx2758⟩ := obind hx2758;(conv=>whnf);refine Side.mk ⟨rfl, rfl⟩ ?_;(conv=>whnf);refine Side.mk ⟨rfl, rfl, rfl⟩ (Need.mk (app_need hN hx2772 (by decide)) (Eqv.mk (List.map Ref09Side.enc l1375) (app_map _ hx2772) ?_));(conv=>whnf);intro hd2740;cases hx2758;(conv=>whnf);refine ⟨(hd2681, hd2740), trivial, Sub.eq rfl ?_ ?_⟩
                ·(repeat ((conv=>whnf);refine nr ?_));exact trivial
                ·(conv=>whnf);refine no ?_;(conv=>whnf);refine no ?_;(conv=>whnf);refine no ?_;(conv=>whnf);refine no ?_;(conv=>whnf);refine no ?_;exact trivial
               ·replace hx2758 := ite_f hc783 hx2758;obtain ⟨x1594, hx2773, hx2758⟩ := obind hx2758;(conv=>whnf);refine Side.mk ⟨rfl, rfl⟩ (Need.mk (idx_need _ hx2773) ?_);(conv=>whnf);refine Side.mk ⟨rfl, rfl⟩ ⟨_, Int.natCast_nonneg _, idx_el _ hx2773, ?_⟩;(conv=>whnf);intro hd2741;obtain ⟨l1376, hx2774, hx2758⟩ := obind hx2758;(conv=>whnf);refine Side.mk ⟨rfl, rfl⟩ ?_;(conv=>whnf);refine Side.mk ⟨rfl, rfl, rfl⟩ (Need.mk (app_need hN hx2774 (by decide)) (Eqv.mk (List.map Ref09Side.enc l1376) (app_map _ hx2774) ?_));(conv=>whnf);intro hd2742;cases hx2758;(conv=>whnf);refine ⟨(hd2681, hd2742), trivial, Sub.eq rfl ?_ ?_⟩
                ·(repeat ((conv=>whnf);refine nr ?_));exact trivial
                ·(conv=>whnf);refine no ?_;(conv=>whnf);refine no ?_;(conv=>whnf);refine no ?_;(conv=>whnf);refine no ?_;(conv=>whnf);refine no ?_;exact trivial
            ·rintro ⟨hd2729, hd2730⟩ _;obtain ⟨x1595, hx2775, hx2741⟩ := obind hx2741;(conv=>whnf);refine Side.mk ⟨rfl, rfl⟩ (Need.mk (idx_need _ hx2775) ?_);(conv=>whnf);refine Side.mk ⟨rfl, rfl⟩ ⟨_, Int.natCast_nonneg _, idx_el _ hx2775, ?_⟩;(conv=>whnf);refine Br.mk (fun hc784 => ?_) (fun hc784 => ?_)
             ·replace hx2741 := ite_f hc784 hx2741;obtain ⟨x1596, hx2776, hx2741⟩ := obind hx2741;(conv=>whnf);refine Side.mk ⟨rfl, rfl⟩ (Need.mk (idx_need _ hx2776) ?_);(conv=>whnf);refine Side.mk ⟨rfl, rfl⟩ ⟨_, Int.natCast_nonneg _, idx_el _ hx2776, ?_⟩;(conv=>whnf);intro hd2743;obtain ⟨l1377, hx2777, hx2741⟩ := obind hx2741;(conv=>whnf);refine Side.mk ⟨rfl, rfl⟩ ?_;(conv=>whnf);refine Side.mk ⟨rfl, rfl, rfl⟩ (Need.mk (app_need hN hx2777 (by decide)) (Eqv.mk (List.map D.bool l1377) (app_map _ hx2777) ?_));(conv=>whnf);intro hd2744;cases hx2741;(conv=>whnf);refine ⟨(hd2729, hd2730, hd2744), trivial, Sub.eq rfl ?_ ?_⟩
              ·(repeat ((conv=>whnf);refine nr ?_));exact trivial
              ·(conv=>whnf);refine no ?_;(conv=>whnf);refine no ?_;(conv=>whnf);refine no ?_;(conv=>whnf);refine no ?_;(conv=>whnf);refine no ?_;exact trivial
             ·replace hx2741 := ite_t hc784 hx2741;(conv=>whnf);intro hd2745;obtain ⟨l1378, hx2778, hx2741⟩ := obind hx2741;(conv=>whnf);refine Side.mk ⟨rfl, rfl⟩ ?_;(conv=>whnf);refine Side.mk ⟨rfl, rfl, rfl⟩ (Need.mk (app_need hN hx2778 (by decide)) (Eqv.mk (List.map D.bool l1378) (app_map _ hx2778) ?_));(conv=>whnf);intro hd2746;cases hx2741;(conv=>whnf);refine ⟨(hd2729, hd2730, hd2746), trivial, Sub.eq rfl ?_ ?_⟩
              ·(repeat ((conv=>whnf);refine nr ?_));exact trivial
              ·(conv=>whnf);refine no ?_;(conv=>whnf);refine no ?_;(conv=>whnf);refine no ?_;(conv=>whnf);refine no ?_;(conv=>whnf);refine no ?_;exact trivial
           ·rintro ⟨hd2714, hd2715, hd2716⟩ _;(conv=>whnf);refine ⟨(n28, (w64 (i56 + 2), l1362, l1363, l1364), hd2714, hd2715, hd2716), hl20, Sub.eq rfl ?_ ?_, Nat.lt_succ_self _⟩
            ·(repeat ((conv=>whnf);refine nr ?_));exact trivial
            ·(conv=>whnf);refine no ?_;(conv=>whnf);refine no ?_;(conv=>whnf);refine no ?_;(conv=>whnf);refine no ?_;(conv=>whnf);refine no ?_;exact trivial
          ·replace hl20 := ite_f hc766 hl20;cases hl20;(conv=>whnf);refine ⟨(hd2681, hd2682, hd2683), trivial, Sub.eq rfl ?_ ?_⟩
           ·(repeat ((conv=>whnf);refine nr ?_));exact trivial
           ·(conv=>whnf);refine no ?_;(conv=>whnf);refine no ?_;(conv=>whnf);refine no ?_;exact trivial
        ·rintro ⟨hd2543, hd2544, hd2545⟩ _;(conv=>whnf);refine ⟨(n26, (l1271, l1272, l1273), hd2543, hd2544, hd2545), h, Sub.ren [(65, 110), (75, 149)] rfl rfl ?_ ?_, Nat.lt_succ_self _⟩
         ·(repeat ((conv=>whnf);refine nr ?_));exact trivial
         ·(conv=>whnf);refine no ?_;(conv=>whnf);refine no ?_;(conv=>whnf);refine no ?_;exact trivial
     ·rintro hd1519 _;(conv=>whnf);refine sr ?_;(conv=>whnf);cases h;exact rfl
theorem ref09FindC {N : Nat} (hN : N ≤ 1073741824) {c1 : Ref09Cup} {match1 : Int} {r : Int} (h : ref09Find N c1 match1 = some r) :
    ACalls Try.prog 29 [.d (.agg [.int .u8 c1.fForm, I c1.fPlayers, I c1.fGames, .list 3 (List.map Ref09Result.enc c1.fResults)]), .d (I match1)] [] fun e os => e = .ret (.d (I r)) ∧ os = [] := by
  refine acalls_f (fresh := false) tt_ok dr_ok ⟨[2], [], [], [], [1001], 0, []⟩ Try.func29 rfl Try.call29 rfl ?_
  unfold ref09Find at h
  (conv=>whnf);refine SeqG.mk Unit (fun y => []) (fun y => []) (fun y => ref09Find_k1 N = some r) ?_ ?_
  ·(conv=>whnf);refine LoopG.mk (Nat × Int) (fun y => [(1, .d (I match1)), (2, .d (.ref (.agg [.int .u8 c1.fForm, I c1.fPlayers, I c1.fGames, .list 3 (List.map Ref09Result.enc c1.fResults)]))), (5, .d (I y.2))]) (fun y => []) (fun y => loopN (fun rr x => ref09Find_b2 N c1 match1 rr x) y.1 y.2 = some r) (fun y => y.1) (N, 0) h (Sub.eq rfl ?_ ?_) ?_
   ·(repeat ((conv=>whnf);refine nr ?_));exact trivial
   ·exact trivial
   ·rintro ⟨n2, i8⟩ hl2;obtain ⟨n2, rfl, hl2⟩ := loopN_some hl2;replace hl2 : ref09Find_b2 N c1 match1 (loopN (fun rr x => ref09Find_b2 N c1 match1 rr x) n2) i8 = some r := hl2;rw [ref09Find_b2] at hl2;(conv=>whnf);refine LnA.mk _ (List.length_map _) ?_;(conv=>whnf);refine Br.mk (fun hc22 => ?_) (fun hc22 => ?_)
    ·replace hl2 := ite_t hc22 hl2;obtain ⟨x24, hx24, hl2⟩ := obind hl2;(conv=>whnf);refine Side.mk rfl ⟨_, idx_0 hx24, idx_map _ hx24, ?_⟩;(conv=>whnf);refine Br.mk (fun hc24 => ?_) (fun hc24 => ?_)
     ·replace hl2 := ite_t hc24 hl2;(conv=>whnf);cases hl2;exact rfl
     ·replace hl2 := ite_f hc24 hl2;(conv=>whnf);refine ⟨(n2, w64 (i8 + 1)), hl2, Sub.eq rfl ?_ ?_, Nat.lt_succ_self _⟩
      ·(repeat ((conv=>whnf);refine nr ?_));exact trivial
      ·exact trivial
    ·replace hl2 := ite_f hc22 hl2;(conv=>whnf);refine ⟨(), hl2, Sub.eq rfl ?_ ?_⟩
     ·(repeat ((conv=>whnf);refine nr ?_));exact trivial
     ·exact trivial
  ·clear h;rintro _ h;unfold ref09Find_k1 at h;(conv=>whnf);cases h;exact rfl
theorem ref09WinsC {N : Nat} (hN : N ≤ 1073741824) {games1 : List Int} {player1 : Int} {r : Int} (h : ref09Wins N games1 player1 = some r) :
    ACalls Try.prog 36 [.d (.list 1 (List.map I games1)), .d (I player1)] [] fun e os => e = .ret (.d (I r)) ∧ os = [] := by
  refine acalls_f (fresh := false) tt_ok dr_ok ⟨[], [], [], [], [1002, 1005], 0, []⟩ Try.func36 rfl Try.call36 rfl ?_
  unfold ref09Wins at h
  obtain ⟨n9, hx16, h⟩ := obind h;(conv=>whnf);refine SeqG.mk Unit (fun y => [(5, .d (I n9))]) (fun y => []) (fun _ => True) ?_ ?_
  ·(conv=>whnf);refine LoopG.mk (Nat × (Int × Int)) (fun y => [(0, .d (.list 1 (List.map I games1))), (1, .d (I player1)), (5, .d (I y.2.1)), (6, .d (I y.2.2))]) (fun y => []) (fun y => loopN (fun rr x => ref09Wins_b1 N games1 player1 rr x.1 x.2) y.1 y.2 = some n9) (fun y => y.1) (N, (0, 0)) hx16 (Sub.eq rfl ?_ ?_) ?_
   ·(repeat ((conv=>whnf);refine nr ?_));exact trivial
   ·exact trivial
   ·rintro ⟨n16, ⟨n15, i8⟩⟩ hl2;obtain ⟨n16, rfl, hl2⟩ := loopN_some hl2;replace hl2 : ref09Wins_b1 N games1 player1 (loopN (fun rr x => ref09Wins_b1 N games1 player1 rr x.1 x.2) n16) n15 i8 = some n9 := hl2;rw [ref09Wins_b1] at hl2;(conv=>whnf);refine LnA.mk _ (List.length_map _) ?_;(conv=>whnf);refine Br.mk (fun hc22 => ?_) (fun hc22 => ?_)
    ·replace hl2 := ite_t hc22 hl2;obtain ⟨n17, hx29, hl2⟩ := obind hl2;(conv=>whnf);refine SeqG.mk Unit (fun y => [(0, .d (.list 1 (List.map I games1))), (1, .d (I player1)), (5, .d (I n17)), (6, .d (I i8))]) (fun y => []) (fun _ => True) ?_ ?_
     ·obtain ⟨x24, hx31, hx29⟩ := obind hx29;(conv=>whnf);refine Side.mk rfl ⟨_, idx_0 hx31, idx_map _ hx31, ?_⟩;(conv=>whnf);refine Br.mk (fun hc24 => ?_) (fun hc24 => ?_)
      ·replace hx29 := ite_t hc24 hx29;cases hx29;(conv=>whnf);refine ⟨(), trivial, Sub.eq rfl ?_ ?_⟩
       ·(repeat ((conv=>whnf);refine nr ?_));exact trivial
       ·exact trivial
      ·replace hx29 := ite_f hc24 hx29;cases hx29;(conv=>whnf);refine ⟨(), trivial, Sub.eq rfl ?_ ?_⟩
       ·(repeat ((conv=>whnf);refine nr ?_));exact trivial
       ·exact trivial
     ·rintro _ _;(conv=>whnf);refine ⟨(n16, (n17, w64 (i8 + 1))), hl2, Sub.eq rfl ?_ ?_, Nat.lt_succ_self _⟩
      ·(repeat ((conv=>whnf);refine nr ?_));exact trivial
      ·exact trivial
    ·replace hl2 := ite_f hc22 hl2;cases hl2;(conv=>whnf);refine ⟨(), trivial, Sub.eq rfl ?_ ?_⟩
     ·(repeat ((conv=>whnf);refine nr ?_));exact trivial
     ·exact trivial
  ·rintro _ _;(conv=>whnf);cases h;exact rfl
theorem ref09DecidedC {N : Nat} (hN : N ≤ 1073741824) {c1 : Ref09Cup} {games1 : List Int} {r : Int} (h : ref09Decided N c1 games1 = some r) :
    ACalls Try.prog 60 [.d (.agg [.int .u8 c1.fForm, I c1.fPlayers, I c1.fGames, .list 3 (List.map Ref09Result.enc c1.fResults)]), .d (.list 1 (List.map I games1))] [] fun e os => e = .ret (.d (I r)) ∧ os = [] := by
  refine acalls_f (fresh := false) tt_ok dr_ok ⟨[2], [], [], [], [1001], 0, []⟩ Try.func60 rfl Try.call60 rfl ?_
  unfold ref09Decided at h
  (conv=>whnf);refine SeqG.mk Unit (fun y => []) (fun y => []) (fun y => ref09Decided_k1 N = some r) ?_ ?_
  ·(conv=>whnf);refine LoopG.mk (Nat × Int) (fun y => [(1, .d (.list 1 (List.map I games1))), (2, .d (.ref (.agg [.int .u8 c1.fForm, I c1.fPlayers, I c1.fGames, .list 3 (List.map Ref09Result.enc c1.fResults)]))), (5, .d (I y.2))]) (fun y => []) (fun y => loopN (fun rr x => ref09Decided_b2 N c1 games1 rr x) y.1 y.2 = some r) (fun y => y.1) (N, 0) h (Sub.eq rfl ?_ ?_) ?_
   ·(repeat ((conv=>whnf);refine nr ?_));exact trivial
   ·exact trivial
   ·rintro ⟨n2, i8⟩ hl2;obtain ⟨n2, rfl, hl2⟩ := loopN_some hl2;replace hl2 : ref09Decided_b2 N c1 games1 (loopN (fun rr x => ref09Decided_b2 N c1 games1 rr x) n2) i8 = some r := hl2;rw [ref09Decided_b2] at hl2;(conv=>whnf);refine LnA.mk _ (List.length_map _) ?_;(conv=>whnf);refine Br.mk (fun hc22 => ?_) (fun hc22 => ?_)
    ·replace hl2 := ite_t hc22 hl2;obtain ⟨x24, hx47, hl2⟩ := obind hl2;obtain ⟨r24, hx48, hl2⟩ := obind hl2;(conv=>whnf);refine DrawG.mk (.take 0 (.take 1 (.take 2 (.take 3 (.take 4 (.take 7 (.take 8 (.alt 5 [8, 7, 3, 2, 1] (.take 6 (.take 9 .done)) .nil)))))))) (by kernel_rfl) ?_;(conv=>whnf);refine Side.mk rfl ⟨_, idx_0 hx47, idx_map _ hx47, ?_⟩;(conv=>whnf);refine Both.mk ?_ trivial;(conv=>whnf);refine CallG.pure _ (ref09WinsC hN hx48) ?_;(conv=>whnf);refine nl ?_;(conv=>whnf);refine nl ?_;(conv=>whnf);refine Side.mk rfl ⟨_, idx_0 hx47, idx_map _ hx47, ?_⟩;(conv=>whnf);refine nl ?_;(conv=>whnf);refine nl ?_;(conv=>whnf);refine nl ?_;(conv=>whnf);refine Br.mk (fun hc24 => ?_) (fun hc24 => ?_)
     ·replace hl2 := ite_t hc24 hl2;(conv=>whnf);refine Side.mk rfl ⟨_, idx_0 hx47, idx_map _ hx47, ?_⟩;(conv=>whnf);cases hl2;exact rfl
     ·replace hl2 := ite_f hc24 hl2;(conv=>whnf);refine ⟨(n2, w64 (i8 + 1)), hl2, Sub.eq rfl ?_ ?_, Nat.lt_succ_self _⟩
      ·(repeat ((conv=>whnf);refine nr ?_));exact trivial
      ·exact trivial
    ·replace hl2 := ite_f hc22 hl2;(conv=>whnf);refine ⟨(), hl2, Sub.eq rfl ?_ ?_⟩
     ·(repeat ((conv=>whnf);refine nr ?_));exact trivial
     ·exact trivial
  ·clear h;rintro _ h;unfold ref09Decided_k1 at h;(conv=>whnf);cases h;exact rfl
theorem ref09WonC {N : Nat} (hN : N ≤ 1073741824) {c1 : Ref09Cup} {match1 : Int} {r : Int} (h : ref09Won N c1 match1 = some r) :
    ACalls Try.prog 33 [.d (.agg [.int .u8 c1.fForm, I c1.fPlayers, I c1.fGames, .list 3 (List.map Ref09Result.enc c1.fResults)]), .d (I match1)] [] fun e os => e = .ret (.d (I r)) ∧ os = [] := by
  refine acalls_f (fresh := false) tt_ok dr_ok ⟨[2], [], [], [], [], 0, []⟩ Try.func33 rfl Try.call33 rfl ?_
  unfold ref09Won at h
  obtain ⟨r2, hx2, h⟩ := obind h;(conv=>whnf);refine CallG.pure _ (ref09FindC hN hx2) ?_;(conv=>whnf);refine Br.mk (fun hc2 => ?_) (fun hc2 => ?_)
  ·replace h := ite_t hc2 h;(conv=>whnf);cases h;exact rfl
  ·replace h := ite_f hc2 h;obtain ⟨x2, hx5, h⟩ := obind h;obtain ⟨r4, hx6, h⟩ := obind h;(conv=>whnf);refine DrawG.mk (.take 0 (.take 1 (.take 2 (.take 3 (.take 4 (.take 5 (.take 6 (.alt 7 [5, 4, 3, 2, 1] (.take 8 .done) .nil)))))))) (by kernel_rfl) ?_;(conv=>whnf);refine Side.mk rfl ⟨_, idx_0 hx5, idx_map _ hx5, ?_⟩;(conv=>whnf);refine Both.mk ?_ trivial;(conv=>whnf);refine CallG.pure _ (ref09DecidedC hN hx6) ?_;(conv=>whnf);refine nl ?_;(conv=>whnf);refine Side.mk rfl ⟨_, idx_0 hx5, idx_map _ hx5, ?_⟩;(conv=>whnf);refine nl ?_;(conv=>whnf);refine nl ?_;(conv=>whnf);refine nl ?_;(conv=>whnf);refine nl ?_;(conv=>whnf);cases h;exact rfl
theorem ref09KnownC {N : Nat} (hN : N ≤ 1073741824) {c1 : Ref09Cup} {s1 : Ref09Side} {r : Int} (h : ref09Known N c1 s1 = some r) :
    ACalls Try.prog 34 [.d (.agg [.int .u8 c1.fForm, I c1.fPlayers, I c1.fGames, .list 3 (List.map Ref09Result.enc c1.fResults)]), .d (.agg [I s1.fPlayer, I s1.fMatch])] [] fun e os => e = .ret (.d (I r)) ∧ os = [] := by
  refine acalls_f (fresh := false) tt_ok dr_ok ⟨[2, 3], [], [], [], [], 0, []⟩ Try.func34 rfl Try.call34 rfl ?_
  unfold ref09Known at h
  (conv=>whnf);refine Br.mk (fun hc2 => ?_) (fun hc2 => ?_)
  ·replace h := ite_t hc2 h;(conv=>whnf);cases h;exact rfl
  ·replace h := ite_f hc2 h;obtain ⟨r2, hx2, h⟩ := obind h;(conv=>whnf);refine CallG.pure _ (ref09WonC hN hx2) ?_;(conv=>whnf);cases h;exact rfl
theorem ref09LawfulC {N : Nat} (hN : N ≤ 1073741824) {c1 : Ref09Cup} {tree1 : List Ref09Pair} {r1 : Ref09Result} {r : Bool} (h : ref09Lawful N c1 tree1 r1 = some r) :
    ACalls Try.prog 67 [.d (.agg [.int .u8 c1.fForm, I c1.fPlayers, I c1.fGames, .list 3 (List.map Ref09Result.enc c1.fResults)]), .d (.list 4 (List.map Ref09Pair.enc tree1)), .d (.agg [I r1.fMatch, .list 1 (List.map I r1.fGames), .bool r1.fProtested])] [] fun e os => e = .ret (.d (.bool r)) ∧ os = [] := by
  refine acalls_f (fresh := false) tt_ok dr_ok ⟨[3, 5], [], [], [], [2, 7, 1004], 0, []⟩ Try.func67 rfl Try.call67 rfl ?_
  unfold ref09Lawful at h
  obtain ⟨x2, hx4, h⟩ := obind h;obtain ⟨r4, hx5, h⟩ := obind h;obtain ⟨r5, hx6, h⟩ := obind h;(conv=>whnf);refine DrawG.mk (.take 0 (.take 1 (.take 2 (.take 3 (.take 4 (.take 5 (.take 6 (.take 8 (.take 9 (.take 10 (.take 11 (.take 12 (.take 13 (.take 14 (.alt 7 [14, 13, 12, 11, 10, 9, 8, 5, 4, 3, 2, 1] (.alt 15 [13, 12, 11, 10, 9, 5, 4, 3, 2, 1] (.take 16 (.take 17 .done)) .nil) .nil))))))))))))))) (by kernel_rfl) ?_;(conv=>whnf);refine Side.mk rfl ⟨_, idx_0 hx4, idx_map _ hx4, ?_⟩;(conv=>whnf);refine Side.mk rfl ⟨_, idx_0 hx4, idx_map _ hx4, ?_⟩;(conv=>whnf);refine Both.mk ?_ trivial;(conv=>whnf);refine CallG.pure _ (ref09KnownC hN hx5) ?_;(conv=>whnf);refine nl ?_;(conv=>whnf);refine nl ?_;(conv=>whnf);refine Side.mk rfl ⟨_, idx_0 hx4, idx_map _ hx4, ?_⟩;(conv=>whnf);refine nl ?_;(conv=>whnf);refine nl ?_;(conv=>whnf);refine nl ?_;(conv=>whnf);refine nl ?_;(conv=>whnf);refine nl ?_
  (conv=>whnf);refine nl ?_;(conv=>whnf);refine Side.mk rfl ⟨_, idx_0 hx4, idx_map _ hx4, ?_⟩;(conv=>whnf);refine nl ?_;(conv=>whnf);refine nl ?_;(conv=>whnf);refine nl ?_;(conv=>whnf);refine nl ?_;(conv=>whnf);refine Both.mk ?_ trivial;(conv=>whnf);refine CallG.pure _ (ref09KnownC hN hx6) ?_;(conv=>whnf);refine nl ?_;(conv=>whnf);refine Side.mk rfl ⟨_, idx_0 hx4, idx_map _ hx4, ?_⟩;(conv=>whnf);refine nl ?_;(conv=>whnf);refine nl ?_;(conv=>whnf);refine nl ?_;(conv=>whnf);refine nl ?_;(conv=>whnf);refine nl ?_;(conv=>whnf);refine Side.mk rfl ⟨_, idx_0 hx4, idx_map _ hx4, ?_⟩;(conv=>whnf);refine nl ?_;(conv=>whnf);refine nl ?_;(conv=>whnf);refine nl ?_;(conv=>whnf);refine nl ?_;obtain ⟨v2, hx8, h⟩ := obind h;(conv=>whnf)
  refine SeqG.mk Unit (fun y => [(3, .d (.ref (.agg [.int .u8 c1.fForm, I c1.fPlayers, I c1.fGames, .list 3 (List.map Ref09Result.enc c1.fResults)]))), (5, .d (.ref (.agg [I r1.fMatch, .list 1 (List.map I r1.fGames), .bool r1.fProtested]))), (7, .d (I r4)), (8, .d (I r5)), (31, .d (.bool v2))]) (fun y => []) (fun _ => True) ?_ ?_
  ·(conv=>whnf);refine Br.mk (fun hc5 => ?_) (fun hc5 => ?_)
   ·replace hx8 := ite_f hc5 hx8;cases hx8;(conv=>whnf);refine ⟨(), trivial, Sub.eq rfl ?_ ?_⟩
    ·(repeat ((conv=>whnf);refine nr ?_));exact trivial
    ·exact trivial
   ·replace hx8 := ite_t hc5 hx8;cases hx8;(conv=>whnf);refine ⟨(), trivial, Sub.eq rfl ?_ ?_⟩
    ·(repeat ((conv=>whnf);refine nr ?_));exact trivial
    ·exact trivial
  ·rintro _ _;(conv=>whnf);refine Br.mk (fun hc6 => ?_) (fun hc6 => ?_)
   ·replace h := ite_t hc6 h;(conv=>whnf);cases h;exact rfl
   ·replace h := ite_f hc6 h;(conv=>whnf);refine SeqG.mk Unit (fun y => []) (fun y => []) (fun y => ref09Lawful_k1 N = some r) ?_ ?_
    ·(conv=>whnf);refine LoopG.mk (Nat × Int) (fun y => [(3, .d (.ref (.agg [.int .u8 c1.fForm, I c1.fPlayers, I c1.fGames, .list 3 (List.map Ref09Result.enc c1.fResults)]))), (5, .d (.ref (.agg [I r1.fMatch, .list 1 (List.map I r1.fGames), .bool r1.fProtested]))), (7, .d (I r4)), (8, .d (I r5)), (9, .d (I y.2))]) (fun y => []) (fun y => loopN (fun rr x => ref09Lawful_b2 N c1 r1 r4 r5 rr x) y.1 y.2 = some r) (fun y => y.1) (N, 0) h (Sub.eq rfl ?_ ?_) ?_
     ·(repeat ((conv=>whnf);refine nr ?_));exact trivial
     ·exact trivial
     ·rintro ⟨n2, i8⟩ hl2;obtain ⟨n2, rfl, hl2⟩ := loopN_some hl2;replace hl2 : ref09Lawful_b2 N c1 r1 r4 r5 (loopN (fun rr x => ref09Lawful_b2 N c1 r1 r4 r5 rr x) n2) i8 = some r := hl2;rw [ref09Lawful_b2] at hl2;(conv=>whnf);refine LnA.mk _ (List.length_map _) ?_;(conv=>whnf);refine Br.mk (fun hc68 => ?_) (fun hc68 => ?_)
      ·replace hl2 := ite_t hc68 hl2;obtain ⟨v14, hx135, hl2⟩ := obind hl2;(conv=>whnf);refine SeqG.mk Unit (fun y => [(3, .d (.ref (.agg [.int .u8 c1.fForm, I c1.fPlayers, I c1.fGames, .list 3 (List.map Ref09Result.enc c1.fResults)]))), (5, .d (.ref (.agg [I r1.fMatch, .list 1 (List.map I r1.fGames), .bool r1.fProtested]))), (7, .d (I r4)), (8, .d (I r5)), (9, .d (I i8)), (63, .d (.bool v14))]) (fun y => []) (fun _ => True) ?_ ?_
       ·obtain ⟨x26, hx136, hx135⟩ := obind hx135;(conv=>whnf);refine DrawG.mk (.take 0 (.take 1 (.take 2 (.take 3 (.take 4 (.take 5 (.take 6 (.take 7 (.spl 46 (.take 8 (.take 9 (.take 10 (.take 11 (.take 12 (.take 13 (.take 14 (.take 15 (.take 16 (.spl 55 (.take 17 (.take 18 (.take 19 (.take 20 (.alt 21 [18, 17, 15, 14, 13, 12, 11, 10, 9, 8, 7, 6, 5, 4, 3, 2, 1, 0] (.alt 22 [18, 15, 14, 13, 12, 11, 10, 9, 8, 7, 6, 5, 4, 3, 2, 1, 0] (.take 23 (.take 24 .done)) .nil) .nil)))))))))))))))))))))))) (by kernel_rfl) ?_;(conv=>whnf);refine Side.mk rfl ⟨_, idx_0 hx136, idx_map _ hx136, ?_⟩;(conv=>whnf);refine Br.mk (fun hc76 => ?_) (fun hc76 => ?_)
        ·replace hx135 := ite_t hc76 hx135;(conv=>whnf);refine Side.mk rfl ⟨_, idx_0 hx136, idx_map _ hx136, ?_⟩;(conv=>whnf);refine Br.mk (fun hc77 => ?_) (fun hc77 => ?_)
         ·replace hx135 := ite_t hc77 hx135;(conv=>whnf);refine Both.mk ?_ trivial;(conv=>whnf);refine nr ?_;(conv=>whnf);refine nr ?_;(conv=>whnf);refine nl ?_;(conv=>whnf);refine nl ?_;(conv=>whnf);refine nl ?_;(conv=>whnf);refine nl ?_;(conv=>whnf);refine Side.mk rfl ⟨_, idx_0 hx136, idx_map _ hx136, ?_⟩;(conv=>whnf);refine nl ?_;(conv=>whnf);refine nl ?_;(conv=>whnf);refine nl ?_;(conv=>whnf);refine nl ?_;(conv=>whnf);refine Need.mk (AV.le_bool hc76) ?_;(conv=>whnf);refine nl ?_;(conv=>whnf);refine nl ?_;(conv=>whnf);refine nl ?_;(conv=>whnf);refine Side.mk rfl ⟨_, idx_0 hx136, idx_map _ hx136, ?_⟩;(conv=>whnf);refine nl ?_;(conv=>whnf);refine nl ?_;(conv=>whnf);refine nl ?_;(conv=>whnf);refine nl ?_;(conv=>whnf);refine Both.mk ?_ trivial;(conv=>whnf);refine nr ?_;(conv=>whnf);refine nl ?_;(conv=>whnf);refine nl ?_;(conv=>whnf);refine nl ?_;(conv=>whnf);refine nl ?_;(conv=>whnf)
          refine Side.mk rfl ⟨_, idx_0 hx136, idx_map _ hx136, ?_⟩;(conv=>whnf);refine nl ?_;(conv=>whnf);refine nl ?_;(conv=>whnf);refine nl ?_;(conv=>whnf);refine nl ?_;(conv=>whnf);refine Need.mk (AV.le_bool hc76) ?_;(conv=>whnf);refine nl ?_;(conv=>whnf);refine nl ?_;(conv=>whnf);refine nl ?_;(conv=>whnf);refine Side.mk rfl ⟨_, idx_0 hx136, idx_map _ hx136, ?_⟩;(conv=>whnf);refine nl ?_;(conv=>whnf);refine nl ?_;(conv=>whnf);refine nl ?_;(conv=>whnf);refine nl ?_;cases hx135;(conv=>whnf);refine ⟨(), trivial, Sub.eq rfl ?_ ?_⟩
          ·(repeat ((conv=>whnf);refine nr ?_));exact trivial
          ·exact trivial
         ·replace hx135 := ite_f hc77 hx135;obtain ⟨l47, hx137, hx135⟩ := obind hx135;obtain ⟨r52, hx138, hx135⟩ := obind hx135;(conv=>whnf);refine Both.mk ?_ trivial;(conv=>whnf);refine Need.mk (slc_need _ hx137) (Eqv.mk (List.map I l47) (slc_map _ hx137) ?_);(conv=>whnf);refine nl ?_;(conv=>whnf);refine nl ?_;(conv=>whnf);refine nl ?_;(conv=>whnf);refine nl ?_;(conv=>whnf);refine nl ?_;(conv=>whnf);refine nl ?_;(conv=>whnf);refine Side.mk rfl ⟨_, idx_0 hx136, idx_map _ hx136, ?_⟩;(conv=>whnf);refine nl ?_;(conv=>whnf);refine nl ?_;(conv=>whnf);refine nl ?_;(conv=>whnf);refine nl ?_;(conv=>whnf);refine Need.mk (AV.le_bool hc76) ?_;(conv=>whnf);refine nl ?_;(conv=>whnf);refine nl ?_;(conv=>whnf);refine nl ?_;(conv=>whnf);refine Side.mk rfl ⟨_, idx_0 hx136, idx_map _ hx136, ?_⟩;(conv=>whnf);refine nl ?_;(conv=>whnf);refine nl ?_;(conv=>whnf);refine nl ?_;(conv=>whnf);refine nl ?_
          (conv=>whnf);refine Both.mk ?_ trivial;(conv=>whnf);refine CallG.pure _ (ref09DecidedC hN hx138) ?_;(conv=>whnf);refine nl ?_;(conv=>whnf);refine nl ?_;(conv=>whnf);refine nl ?_;(conv=>whnf);refine nl ?_;(conv=>whnf);refine nl ?_;(conv=>whnf);refine Side.mk rfl ⟨_, idx_0 hx136, idx_map _ hx136, ?_⟩;(conv=>whnf);refine nl ?_;(conv=>whnf);refine nl ?_;(conv=>whnf);refine nl ?_;(conv=>whnf);refine nl ?_;(conv=>whnf);refine Need.mk (AV.le_bool hc76) ?_;(conv=>whnf);refine nl ?_;(conv=>whnf);refine nl ?_;(conv=>whnf);refine nl ?_;(conv=>whnf);refine Side.mk rfl ⟨_, idx_0 hx136, idx_map _ hx136, ?_⟩;(conv=>whnf);refine nl ?_;(conv=>whnf);refine nl ?_;(conv=>whnf);refine nl ?_;(conv=>whnf);refine nl ?_;cases hx135;(conv=>whnf);refine ⟨(), trivial, Sub.eq rfl ?_ ?_⟩
          ·(repeat ((conv=>whnf);refine nr ?_));exact trivial
          ·exact trivial
        ·replace hx135 := ite_f hc76 hx135;obtain ⟨l48, hx139, hx135⟩ := obind hx135;obtain ⟨r53, hx140, hx135⟩ := obind hx135;(conv=>whnf);refine Both.mk ?_ trivial;(conv=>whnf);refine Need.mk (slc_need _ hx139) (Eqv.mk (List.map I l48) (slc_map _ hx139) ?_);(conv=>whnf);refine nl ?_;(conv=>whnf);refine nl ?_;(conv=>whnf);refine nl ?_;(conv=>whnf);refine nr ?_;(conv=>whnf);refine nr ?_;(conv=>whnf);refine nr ?_;(conv=>whnf);refine nr ?_;(conv=>whnf);refine nr ?_;(conv=>whnf);refine nr ?_;(conv=>whnf);refine nr ?_;(conv=>whnf);refine Need.mk (AV.le_bool hc76) ?_;(conv=>whnf);refine nl ?_;(conv=>whnf);refine nl ?_;(conv=>whnf);refine nl ?_;(conv=>whnf);refine Side.mk rfl ⟨_, idx_0 hx136, idx_map _ hx136, ?_⟩;(conv=>whnf);refine nl ?_;(conv=>whnf);refine nl ?_;(conv=>whnf);refine nl ?_;(conv=>whnf);refine nl ?_;(conv=>whnf);refine Both.mk ?_ trivial;(conv=>whnf)
         refine CallG.pure _ (ref09DecidedC hN hx140) ?_;(conv=>whnf);refine nl ?_;(conv=>whnf);refine nl ?_;(conv=>whnf);refine nr ?_;(conv=>whnf);refine nr ?_;(conv=>whnf);refine nr ?_;(conv=>whnf);refine nr ?_;(conv=>whnf);refine nr ?_;(conv=>whnf);refine nr ?_;(conv=>whnf);refine nr ?_;(conv=>whnf);refine Need.mk (AV.le_bool hc76) ?_;(conv=>whnf);refine nl ?_;(conv=>whnf);refine nl ?_;(conv=>whnf);refine nl ?_;(conv=>whnf);refine Side.mk rfl ⟨_, idx_0 hx136, idx_map _ hx136, ?_⟩;(conv=>whnf);refine nl ?_;(conv=>whnf);refine nl ?_;(conv=>whnf);refine nl ?_;(conv=>whnf);refine nl ?_;cases hx135;(conv=>whnf);refine ⟨(), trivial, Sub.eq rfl ?_ ?_⟩
         ·(repeat ((conv=>whnf);refine nr ?_));exact trivial
         ·exact trivial
       ·rintro _ _;(conv=>whnf);refine Br.mk (fun hc78 => ?_) (fun hc78 => ?_)
        ·replace hl2 := ite_t hc78 hl2;(conv=>whnf);cases hl2;exact rfl
        ·replace hl2 := ite_f hc78 hl2;(conv=>whnf);refine ⟨(n2, w64 (i8 + 1)), hl2, Sub.eq rfl ?_ ?_, Nat.lt_succ_self _⟩
         ·(repeat ((conv=>whnf);refine nr ?_));exact trivial
         ·exact trivial
      ·replace hl2 := ite_f hc68 hl2;(conv=>whnf);refine ⟨(), hl2, Sub.eq rfl ?_ ?_⟩
       ·(repeat ((conv=>whnf);refine nr ?_));exact trivial
       ·exact trivial
    ·clear h;rintro _ h;unfold ref09Lawful_k1 at h;(conv=>whnf);cases h;exact rfl
theorem ref09FaultC {N : Nat} (hN : N ≤ 1073741824) {c1 : Ref09Cup} {r : Int} (h : ref09Fault N c1 = some r) :
    ACalls Try.prog 43 [.d (.agg [.int .u8 c1.fForm, I c1.fPlayers, I c1.fGames, .list 3 (List.map Ref09Result.enc c1.fResults)])] [] fun e os => e = .ret (.d (I r)) ∧ os = [] := by
  refine acalls_f (fresh := false) tt_ok dr_ok ⟨[1], [], [], [], [13, 1003, 1010, 1015, 1018, 1024], 0, []⟩ Try.func43 rfl Try.call43 rfl ?_
  unfold ref09Fault at h
  (conv=>whnf);refine LnA.mk _ (List.length_map _) ?_;(conv=>whnf);refine Br.mk (fun hc2 => ?_) (fun hc2 => ?_)
  ·replace h := ite_t hc2 h;(conv=>whnf);cases h;exact rfl
  ·replace h := ite_f hc2 h;(conv=>whnf);refine SeqG.mk Unit (fun y => [(1, .d (.ref (.agg [.int .u8 c1.fForm, I c1.fPlayers, I c1.fGames, .list 3 (List.map Ref09Result.enc c1.fResults)])))]) (fun y => []) (fun y => ref09Fault_k9 N c1 = some r) ?_ ?_
   ·(conv=>whnf);refine LoopG.mk (Nat × Int) (fun y => [(1, .d (.ref (.agg [.int .u8 c1.fForm, I c1.fPlayers, I c1.fGames, .list 3 (List.map Ref09Result.enc c1.fResults)]))), (3, .d (I y.2))]) (fun y => []) (fun y => loopN (fun rr x => ref09Fault_b10 N c1 rr x) y.1 y.2 = some r) (fun y => y.1) (N, 0) h (Sub.eq rfl ?_ ?_) ?_
    ·(repeat ((conv=>whnf);refine nr ?_));exact trivial
    ·exact trivial
    ·rintro ⟨n16, i32⟩ hl16;obtain ⟨n16, rfl, hl16⟩ := loopN_some hl16;replace hl16 : ref09Fault_b10 N c1 (loopN (fun rr x => ref09Fault_b10 N c1 rr x) n16) i32 = some r := hl16;rw [ref09Fault_b10] at hl16;(conv=>whnf);refine LnA.mk _ (List.length_map _) ?_;(conv=>whnf);refine Br.mk (fun hc206 => ?_) (fun hc206 => ?_)
     ·replace hl16 := ite_t hc206 hl16;obtain ⟨x264, hx332, hl16⟩ := obind hl16;(conv=>whnf);refine Side.mk rfl ⟨_, idx_0 hx332, idx_map _ hx332, ?_⟩;(conv=>whnf);refine LnA.mk _ (List.length_map _) ?_;(conv=>whnf);refine Br.mk (fun hc208 => ?_) (fun hc208 => ?_)
      ·replace hl16 := ite_t hc208 hl16;(conv=>whnf);cases hl16;exact rfl
      ·replace hl16 := ite_f hc208 hl16;(conv=>whnf);refine ⟨(n16, w64 (i32 + 1)), hl16, Sub.eq rfl ?_ ?_, Nat.lt_succ_self _⟩
       ·(repeat ((conv=>whnf);refine nr ?_));exact trivial
       ·exact trivial
     ·replace hl16 := ite_f hc206 hl16;(conv=>whnf);refine ⟨(), hl16, Sub.eq rfl ?_ ?_⟩
      ·(repeat ((conv=>whnf);refine nr ?_));exact trivial
      ·exact trivial
   ·clear h;rintro _ h;unfold ref09Fault_k9 at h;obtain ⟨r4, hx16, h⟩ := obind h;(conv=>whnf);refine CallG.pure _ (ref09IsFormC hN hx16) ?_;(conv=>whnf);refine Br.mk (fun hc16 => ?_) (fun hc16 => ?_)
    ·replace h := ite_t hc16 h;(conv=>whnf);cases h;exact rfl
    ·replace h := ite_f hc16 h;(conv=>whnf);refine SeqG.mk Unit (fun y => [(1, .d (.ref (.agg [.int .u8 c1.fForm, I c1.fPlayers, I c1.fGames, .list 3 (List.map Ref09Result.enc c1.fResults)])))]) (fun y => []) (fun y => ref09Fault_k7 N c1 = some r) ?_ ?_
     ·(conv=>whnf);refine LoopG.mk (Nat × Int) (fun y => [(1, .d (.ref (.agg [.int .u8 c1.fForm, I c1.fPlayers, I c1.fGames, .list 3 (List.map Ref09Result.enc c1.fResults)]))), (4, .d (I y.2))]) (fun y => []) (fun y => loopN (fun rr x => ref09Fault_b8 N c1 rr x) y.1 y.2 = some r) (fun y => y.1) (N, 0) h (Sub.eq rfl ?_ ?_) ?_
      ·(repeat ((conv=>whnf);refine nr ?_));exact trivial
      ·exact trivial
      ·rintro ⟨n15, i28⟩ hl15;obtain ⟨n15, rfl, hl15⟩ := loopN_some hl15;replace hl15 : ref09Fault_b8 N c1 (loopN (fun rr x => ref09Fault_b8 N c1 rr x) n15) i28 = some r := hl15;rw [ref09Fault_b8] at hl15;(conv=>whnf);refine LnA.mk _ (List.length_map _) ?_;(conv=>whnf);refine Br.mk (fun hc190 => ?_) (fun hc190 => ?_)
       ·replace hl15 := ite_t hc190 hl15;obtain ⟨v12, hx318, hl15⟩ := obind hl15;(conv=>whnf);refine SeqG.mk Unit (fun y => [(1, .d (.ref (.agg [.int .u8 c1.fForm, I c1.fPlayers, I c1.fGames, .list 3 (List.map Ref09Result.enc c1.fResults)]))), (4, .d (I i28)), (58, .d (.bool v12))]) (fun y => []) (fun _ => True) ?_ ?_
        ·obtain ⟨x252, hx319, hx318⟩ := obind hx318;obtain ⟨r54, hx320, hx318⟩ := obind hx318;(conv=>whnf);refine DrawG.mk (.take 0 (.take 1 (.take 2 (.take 3 (.take 4 (.take 5 (.take 6 (.take 7 (.take 8 (.alt 9 [7, 6, 4, 3, 2, 1, 0] (.take 10 (.take 11 (.spl 49 (.take 12 (.take 13 (.take 14 (.take 15 (.take 16 (.take 17 (.take 18 (.take 19 (.take 20 .done)))))))))))) .nil)))))))))) (by kernel_rfl) ?_;(conv=>whnf);refine Side.mk rfl ⟨_, idx_0 hx319, idx_map _ hx319, ?_⟩;(conv=>whnf);refine Both.mk ?_ trivial;(conv=>whnf);refine CallG.pure _ (ref09InC hN hx320) ?_;(conv=>whnf);refine nl ?_;(conv=>whnf);refine nl ?_;(conv=>whnf);refine nl ?_;(conv=>whnf);refine Side.mk rfl ⟨_, idx_0 hx319, idx_map _ hx319, ?_⟩;(conv=>whnf);refine nl ?_;(conv=>whnf);refine nl ?_;(conv=>whnf);refine nl ?_;(conv=>whnf);refine nl ?_;(conv=>whnf);refine Br.mk (fun hc195 => ?_) (fun hc195 => ?_)
         ·replace hx318 := ite_t hc195 hx318;cases hx318;(conv=>whnf);refine ⟨(), trivial, Sub.eq rfl ?_ ?_⟩
          ·(repeat ((conv=>whnf);refine nr ?_));exact trivial
          ·exact trivial
         ·replace hx318 := ite_f hc195 hx318;(conv=>whnf);refine Side.mk rfl ⟨_, idx_0 hx319, idx_map _ hx319, ?_⟩;(conv=>whnf);refine LnA.mk _ (List.length_map _) ?_;cases hx318;(conv=>whnf);refine ⟨(), trivial, Sub.eq rfl ?_ ?_⟩
          ·(repeat ((conv=>whnf);refine nr ?_));exact trivial
          ·exact trivial
        ·rintro _ _;(conv=>whnf);refine Br.mk (fun hc196 => ?_) (fun hc196 => ?_)
         ·replace hl15 := ite_t hc196 hl15;(conv=>whnf);cases hl15;exact rfl
         ·replace hl15 := ite_f hc196 hl15;(conv=>whnf);refine ⟨(n15, w64 (i28 + 1)), hl15, Sub.eq rfl ?_ ?_, Nat.lt_succ_self _⟩
          ·(repeat ((conv=>whnf);refine nr ?_));exact trivial
          ·exact trivial
       ·replace hl15 := ite_f hc190 hl15;(conv=>whnf);refine ⟨(), hl15, Sub.eq rfl ?_ ?_⟩
        ·(repeat ((conv=>whnf);refine nr ?_));exact trivial
        ·exact trivial
     ·clear h;rintro _ h;unfold ref09Fault_k7 at h;(conv=>whnf);refine SeqG.mk Unit (fun y => [(1, .d (.ref (.agg [.int .u8 c1.fForm, I c1.fPlayers, I c1.fGames, .list 3 (List.map Ref09Result.enc c1.fResults)])))]) (fun y => []) (fun y => ref09Fault_k3 N c1 = some r) ?_ ?_
      ·(conv=>whnf);refine LoopG.mk (Nat × Int) (fun y => [(1, .d (.ref (.agg [.int .u8 c1.fForm, I c1.fPlayers, I c1.fGames, .list 3 (List.map Ref09Result.enc c1.fResults)]))), (5, .d (I y.2))]) (fun y => []) (fun y => loopN (fun rr x => ref09Fault_b6 N c1 rr x) y.1 y.2 = some r) (fun y => y.1) (N, 0) h (Sub.eq rfl ?_ ?_) ?_
       ·(repeat ((conv=>whnf);refine nr ?_));exact trivial
       ·exact trivial
       ·rintro ⟨n12, i24⟩ hl12;obtain ⟨n12, rfl, hl12⟩ := loopN_some hl12;replace hl12 : ref09Fault_b6 N c1 (loopN (fun rr x => ref09Fault_b6 N c1 rr x) n12) i24 = some r := hl12;rw [ref09Fault_b6] at hl12;(conv=>whnf);refine LnA.mk _ (List.length_map _) ?_;(conv=>whnf);refine Br.mk (fun hc148 => ?_) (fun hc148 => ?_)
        ·replace hl12 := ite_t hc148 hl12;(conv=>whnf);refine SeqG.mk Unit (fun y => [(1, .d (.ref (.agg [.int .u8 c1.fForm, I c1.fPlayers, I c1.fGames, .list 3 (List.map Ref09Result.enc c1.fResults)]))), (5, .d (I i24))]) (fun y => []) (fun y => ref09Fault_k4 N i24 (loopN (fun rr x => ref09Fault_b6 N c1 rr x) n12) = some r) ?_ ?_
         ·(conv=>whnf);refine LoopG.mk (Nat × Int) (fun y => [(1, .d (.ref (.agg [.int .u8 c1.fForm, I c1.fPlayers, I c1.fGames, .list 3 (List.map Ref09Result.enc c1.fResults)]))), (5, .d (I i24)), (6, .d (I y.2))]) (fun y => []) (fun y => loopN (fun rr x => ref09Fault_b5 N c1 i24 (loopN (fun rr x => ref09Fault_b6 N c1 rr x) n12) rr x) y.1 y.2 = some r) (fun y => y.1) (N, 0) hl12 (Sub.eq rfl ?_ ?_) ?_
          ·(repeat ((conv=>whnf);refine nr ?_));exact trivial
          ·exact trivial
          ·rintro ⟨n14, k32⟩ hl14;obtain ⟨n14, rfl, hl14⟩ := loopN_some hl14;replace hl14 : ref09Fault_b5 N c1 i24 (loopN (fun rr x => ref09Fault_b6 N c1 rr x) n12) (loopN (fun rr x => ref09Fault_b5 N c1 i24 (loopN (fun rr x => ref09Fault_b6 N c1 rr x) n12) rr x) n14) k32 = some r := hl14;rw [ref09Fault_b5] at hl14;(conv=>whnf);refine Br.mk (fun hc170 => ?_) (fun hc170 => ?_)
           ·replace hl14 := ite_t hc170 hl14;obtain ⟨x239, hx289, hl14⟩ := obind hl14;obtain ⟨x240, hx290, hl14⟩ := obind hl14;(conv=>whnf);refine DrawG.mk (.take 0 (.take 1 (.take 2 (.take 3 (.take 4 (.take 5 (.take 6 (.take 7 (.take 8 (.take 9 (.take 10 (.take 11 (.take 12 .done))))))))))))) (by kernel_rfl) ?_;(conv=>whnf);refine Side.mk rfl ⟨_, idx_0 hx289, idx_map _ hx289, ?_⟩;(conv=>whnf);refine Side.mk rfl ⟨_, idx_0 hx290, idx_map _ hx290, ?_⟩;(conv=>whnf);refine Br.mk (fun hc172 => ?_) (fun hc172 => ?_)
            ·replace hl14 := ite_t hc172 hl14;(conv=>whnf);cases hl14;exact rfl
            ·replace hl14 := ite_f hc172 hl14;(conv=>whnf);refine ⟨(n14, w64 (k32 + 1)), hl14, Sub.eq rfl ?_ ?_, Nat.lt_succ_self _⟩
             ·(repeat ((conv=>whnf);refine nr ?_));exact trivial
             ·exact trivial
           ·replace hl14 := ite_f hc170 hl14;(conv=>whnf);refine ⟨(), hl14, Sub.eq rfl ?_ ?_⟩
            ·(repeat ((conv=>whnf);refine nr ?_));exact trivial
            ·exact trivial
         ·rintro _ h;unfold ref09Fault_k4 at h;(conv=>whnf);refine ⟨(n12, w64 (i24 + 1)), h, Sub.eq rfl ?_ ?_, Nat.lt_succ_self _⟩
          ·(repeat ((conv=>whnf);refine nr ?_));exact trivial
          ·exact trivial
        ·replace hl12 := ite_f hc148 hl12;(conv=>whnf);refine ⟨(), hl12, Sub.eq rfl ?_ ?_⟩
         ·(repeat ((conv=>whnf);refine nr ?_));exact trivial
         ·exact trivial
      ·clear h;rintro _ h;unfold ref09Fault_k3 at h;obtain ⟨r18, hx145, h⟩ := obind h;(conv=>whnf);refine CallG.pure _ (ref09TreeC hN hx145) ?_;(conv=>whnf);refine SeqG.mk Unit (fun y => []) (fun y => []) (fun y => ref09Fault_k1 N = some r) ?_ ?_
       ·(conv=>whnf);refine LoopG.mk (Nat × Int) (fun y => [(1, .d (.ref (.agg [.int .u8 c1.fForm, I c1.fPlayers, I c1.fGames, .list 3 (List.map Ref09Result.enc c1.fResults)]))), (7, .d (.list 4 (List.map Ref09Pair.enc r18))), (8, .d (I y.2))]) (fun y => []) (fun y => loopN (fun rr x => ref09Fault_b2 N c1 r18 rr x) y.1 y.2 = some r) (fun y => y.1) (N, 0) h (Sub.eq rfl ?_ ?_) ?_
        ·(repeat ((conv=>whnf);refine nr ?_));exact trivial
        ·exact trivial
        ·rintro ⟨n9, i20⟩ hl9;obtain ⟨n9, rfl, hl9⟩ := loopN_some hl9;replace hl9 : ref09Fault_b2 N c1 r18 (loopN (fun rr x => ref09Fault_b2 N c1 r18 rr x) n9) i20 = some r := hl9;rw [ref09Fault_b2] at hl9;(conv=>whnf);refine LnA.mk _ (List.length_map _) ?_;(conv=>whnf);refine Br.mk (fun hc116 => ?_) (fun hc116 => ?_)
         ·replace hl9 := ite_t hc116 hl9;obtain ⟨x144, hx192, hl9⟩ := obind hl9;obtain ⟨r42, hx193, hl9⟩ := obind hl9;(conv=>whnf);refine DrawG.mk (.take 0 (.take 1 (.take 2 (.take 3 (.take 4 (.take 5 (.take 6 (.alt 7 [5, 4, 3, 2] (.take 8 .done) .nil)))))))) (by kernel_rfl) ?_;(conv=>whnf);refine Side.mk rfl ⟨_, idx_0 hx192, idx_map _ hx192, ?_⟩;(conv=>whnf);refine Both.mk ?_ trivial;(conv=>whnf);refine CallG.pure _ (ref09LawfulC hN hx193) ?_;(conv=>whnf);refine Side.mk rfl ⟨_, idx_0 hx192, idx_map _ hx192, ?_⟩;(conv=>whnf);refine nl ?_;(conv=>whnf);refine nl ?_;(conv=>whnf);refine nl ?_;(conv=>whnf);refine nl ?_;(conv=>whnf);refine Br.mk (fun hc118 => ?_) (fun hc118 => ?_)
          ·replace hl9 := ite_t hc118 hl9;(conv=>whnf);cases hl9;exact rfl
          ·replace hl9 := ite_f hc118 hl9;(conv=>whnf);refine ⟨(n9, w64 (i20 + 1)), hl9, Sub.eq rfl ?_ ?_, Nat.lt_succ_self _⟩
           ·(repeat ((conv=>whnf);refine nr ?_));exact trivial
           ·exact trivial
         ·replace hl9 := ite_f hc116 hl9;(conv=>whnf);refine ⟨(), hl9, Sub.eq rfl ?_ ?_⟩
          ·(repeat ((conv=>whnf);refine nr ?_));exact trivial
          ·exact trivial
       ·clear h;rintro _ h;unfold ref09Fault_k1 at h;(conv=>whnf);cases h;exact rfl
end Go.Proofs.Ytbceakhnnnfiaaa
