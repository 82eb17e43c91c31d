/-
  Walks: what the typed functions compute, the program’s functions return.
-/
import Derived.Test.YtbceakhnnnfiaaaWe
namespace Go.Proofs.Ytbceakhnnnfiaaa
open Go Go.Abs Go.Kp
set_option maxRecDepth 100000
set_option maxHeartbeats 8000000
set_option linter.all false
theorem law09ResultC {N : Nat} (hN : N ≤ 1073741824) {match1 : Int} {protested1 : Bool} {games1 : List Int} {r : LadderResult} (h : law09Result N match1 protested1 games1 = some r) :
    ACalls Try.prog 51 [.d (I match1), .d (.bool protested1), .d (.list 1 (List.map I games1))] [] fun e os => e = .ret (.d (.agg [I r.fMatch, .list 1 (List.map I r.fGames), .bool r.fProtested])) ∧ os = [] := by
  refine acalls_f (fresh := false) tt_ok dr_ok ⟨[], [], [], [], [], 0, []⟩ Try.func51 rfl Try.call51 rfl ?_
  unfold law09Result at h
  (conv=>whnf);intro b2;(conv=>whnf);refine sr ?_;(conv=>whnf);refine sr ?_;(conv=>whnf);cases h;exact rfl
theorem law09FiveC {N : Nat} (hN : N ≤ 1073741824) {results1 : List LadderResult} {r : LadderCup} (h : law09Five N results1 = some r) :
    ACalls Try.prog 50 [.d (.list 3 (List.map LadderResult.enc results1))] [] fun e os => e = .ret (.d (.agg [.int .u8 r.fForm, I r.fPlayers, I r.fGames, .list 3 (List.map LadderResult.enc r.fResults)])) ∧ os = [] := by
  refine acalls_f (fresh := false) tt_ok dr_ok ⟨[], [], [], [], [], 0, []⟩ Try.func50 rfl Try.call50 rfl ?_
  unfold law09Five at h
  (conv=>whnf);intro b2;(conv=>whnf);refine sr ?_;(conv=>whnf);refine sr ?_;(conv=>whnf);cases h;exact rfl
theorem ladderCupDraw1C {N : Nat} (hN : N ≤ 1073741824) {r1 : LadderResult} {r : Bool} (h : ladderCupDraw1 N r1 = some r) :
    ACalls Try.prog 75 [.d (.agg [I r1.fMatch, .list 1 (List.map I r1.fGames), .bool r1.fProtested])] [] fun e os => e = .ret (.d (.bool r)) ∧ os = [] := by
  refine acalls_f (fresh := false) tt_ok dr_ok ⟨[1], [], [], [], [], 0, []⟩ Try.func75 rfl Try.call75 rfl ?_
  unfold ladderCupDraw1 at h
  (conv=>whnf);refine LnA.mk _ (List.length_map _) ?_;(conv=>whnf);cases h;exact rfl
theorem ladderAll1C {N : Nat} (hN : N ≤ 1073741824) {x1 : LadderResult} {r : Bool} (h : ladderAll1 N x1 = some r) :
    ACalls Try.prog 92 [.d (.agg [I x1.fMatch, .list 1 (List.map I x1.fGames), .bool x1.fProtested]), .d (.ref (.agg [.fn (.func 75) [] []]))] [] fun e os => e = .ret (.d (.bool r)) ∧ os = [] := by
  refine acalls_f (fresh := false) tt_ok dr_ok ⟨[2], [], [], [], [], 0, []⟩ Try.func92 rfl Try.call92 rfl ?_
  unfold ladderAll1 at h
  obtain ⟨r2, hx2, h⟩ := obind h;(conv=>whnf);refine CallG.pure _ (ladderCupDraw1C hN hx2) ?_;(conv=>whnf);cases h;exact rfl
theorem slicesIndexFuncC {N : Nat} (hN : N ≤ 1073741824) {s1 : List LadderResult} {r : Int} (h : slicesIndexFunc N s1 = some r) :
    ACalls Try.prog 97 [.d (.list 3 (List.map LadderResult.enc s1)), .d (.fn (.func 92) [] [.ref (.agg [.fn (.func 75) [] []])])] [] fun e os => e = .ret (.d (I r)) ∧ os = [] := by
  refine acalls_f (fresh := false) tt_ok dr_ok ⟨[], [], [], [], [1001], 0, []⟩ Try.func97 rfl Try.call97 rfl ?_
  unfold slicesIndexFunc at h
  (conv=>whnf);refine SeqG.mk Unit (fun y => []) (fun y => []) (fun y => slicesIndexFunc_k1 N = some r) ?_ ?_
  ·(conv=>whnf);refine LnA.mk _ (List.length_map _) ?_;(conv=>whnf);refine LoopG.mk (Nat × (Int × Int)) (fun y => [(0, .d (.list 3 (List.map LadderResult.enc s1))), (1, .d (.fn (.func 92) [] [.ref (.agg [.fn (.func 75) [] []])])), (7, .d (I y.2.1)), (8, .d (I y.2.2))]) (fun y => []) (fun y => loopN (fun rr x => slicesIndexFunc_b2 N s1 rr x.1 x.2) y.1 y.2 = some r) (fun y => y.1) (N, ((s1.length : Int), 0)) h (Sub.eq rfl ?_ ?_) ?_
   ·(repeat ((conv=>whnf);refine nr ?_));exact trivial
   ·exact trivial
   ·rintro ⟨n2, ⟨v17, v18⟩⟩ hl2;obtain ⟨n2, rfl, hl2⟩ := loopN_some hl2;replace hl2 : slicesIndexFunc_b2 N s1 (loopN (fun rr x => slicesIndexFunc_b2 N s1 rr x.1 x.2) n2) v17 v18 = some r := hl2;rw [slicesIndexFunc_b2] at hl2;(conv=>whnf);refine Br.mk (fun hc22 => ?_) (fun hc22 => ?_)
    ·replace hl2 := ite_t hc22 hl2;obtain ⟨x24, hx47, hl2⟩ := obind hl2;(conv=>whnf);refine Side.mk rfl ⟨_, idx_0 hx47, idx_map _ hx47, ?_⟩;obtain ⟨r24, hx48, hl2⟩ := obind hl2;(conv=>whnf);refine CallG.pure _ (ladderAll1C hN hx48) ?_;(conv=>whnf);refine Br.mk (fun hc24 => ?_) (fun hc24 => ?_)
     ·replace hl2 := ite_t hc24 hl2;(conv=>whnf);cases hl2;exact rfl
     ·replace hl2 := ite_f hc24 hl2;(conv=>whnf);refine ⟨(n2, (v17, w64 (v18 + 1))), hl2, Sub.eq rfl ?_ ?_, Nat.lt_succ_self _⟩
      ·(repeat ((conv=>whnf);refine nr ?_));exact trivial
      ·exact trivial
    ·replace hl2 := ite_f hc22 hl2;(conv=>whnf);refine ⟨(), hl2, Sub.eq rfl ?_ ?_⟩
     ·(repeat ((conv=>whnf);refine nr ?_));exact trivial
     ·exact trivial
  ·clear h;rintro _ h;unfold slicesIndexFunc_k1 at h;(conv=>whnf);cases h;exact rfl
theorem slicesContainsFuncC {N : Nat} (hN : N ≤ 1073741824) {s1 : List LadderResult} {r : Bool} (h : slicesContainsFunc N s1 = some r) :
    ACalls Try.prog 91 [.d (.list 3 (List.map LadderResult.enc s1)), .d (.fn (.func 92) [] [.ref (.agg [.fn (.func 75) [] []])])] [] fun e os => e = .ret (.d (.bool r)) ∧ os = [] := by
  refine acalls_f (fresh := false) tt_ok dr_ok ⟨[], [], [], [], [], 0, []⟩ Try.func91 rfl Try.call91 rfl ?_
  unfold slicesContainsFunc at h
  obtain ⟨r2, hx2, h⟩ := obind h;(conv=>whnf);refine CallG.pure _ (slicesIndexFuncC hN hx2) ?_;(conv=>whnf);cases h;exact rfl
theorem ladderAllC {N : Nat} (hN : N ≤ 1073741824) {l1 : List LadderResult} {r : Bool} (h : ladderAll N l1 = some r) :
    ACalls Try.prog 78 [.d (.list 3 (List.map LadderResult.enc l1)), .d (.fn (.func 75) [] [])] [] fun e os => e = .ret (.d (.bool r)) ∧ os = [] := by
  refine acalls_f (fresh := false) tt_ok dr_ok ⟨[3], [], [], [], [], 0, []⟩ Try.func78 rfl Try.call78 rfl ?_
  unfold ladderAll at h
  obtain ⟨r2, hx2, h⟩ := obind h;(conv=>whnf);refine CallG.pure _ (slicesContainsFuncC hN hx2) ?_;(conv=>whnf);cases h;exact rfl
theorem ladderWithinC {N : Nat} (hN : N ≤ 1073741824) {n1 : Int} {low1 : Int} {high1 : Int} {r : Bool} (h : ladderWithin N n1 low1 high1 = some r) :
    ACalls Try.prog 77 [.d (I n1), .d (I low1), .d (I high1)] [] fun e os => e = .ret (.d (.bool r)) ∧ os = [] := by
  refine acalls_f (fresh := false) tt_ok dr_ok ⟨[], [], [], [], [1], 0, []⟩ Try.func77 rfl Try.call77 rfl ?_
  unfold ladderWithin at h
  obtain ⟨v1, hx1, h⟩ := obind h;(conv=>whnf);refine SeqG.mk Unit (fun y => [(6, .d (.bool v1))]) (fun y => []) (fun _ => True) ?_ ?_
  ·(conv=>whnf);refine Br.mk (fun hc2 => ?_) (fun hc2 => ?_)
   ·replace hx1 := ite_t hc2 hx1;cases hx1;(conv=>whnf);refine ⟨(), trivial, Sub.eq rfl ?_ ?_⟩
    ·(repeat ((conv=>whnf);refine nr ?_));exact trivial
    ·exact trivial
   ·replace hx1 := ite_f hc2 hx1;cases hx1;(conv=>whnf);refine ⟨(), trivial, Sub.eq rfl ?_ ?_⟩
    ·(repeat ((conv=>whnf);refine nr ?_));exact trivial
    ·exact trivial
  ·rintro _ _;(conv=>whnf);cases h;exact rfl
theorem ladderCupCheckC {N : Nat} (hN : N ≤ 1073741824) {c1 : LadderCup} {r : Int} (h : ladderCupCheck N c1 = some r) :
    ACalls Try.prog 63 [.d (.agg [.int .u8 c1.fForm, I c1.fPlayers, I c1.fGames, .list 3 (List.map LadderResult.enc c1.fResults)])] [] fun e os => e = .ret (.d (I r)) ∧ os = [] := by
  refine acalls_f (fresh := false) tt_ok dr_ok ⟨[1], [], [], [], [1], 0, []⟩ Try.func63 rfl Try.call63 rfl ?_
  unfold ladderCupCheck at h
  obtain ⟨v2, hx8, h⟩ := obind h;(conv=>whnf);refine SeqG.mk Unit (fun y => [(23, .d (.bool v2))]) (fun y => []) (fun _ => True) ?_ ?_
  ·(conv=>whnf);refine Br.mk (fun hc11 => ?_) (fun hc11 => ?_)
   ·replace hx8 := ite_f hc11 hx8;obtain ⟨r7, hx9, hx8⟩ := obind hx8;(conv=>whnf);refine CallG.pure _ (ladderWithinC hN hx9) ?_;(conv=>whnf);refine Br.mk (fun hc12 => ?_) (fun hc12 => ?_)
    ·replace hx8 := ite_f hc12 hx8;obtain ⟨r8, hx10, hx8⟩ := obind hx8;(conv=>whnf);refine CallG.pure _ (ladderWithinC hN hx10) ?_;(conv=>whnf);refine Br.mk (fun hc13 => ?_) (fun hc13 => ?_)
     ·replace hx8 := ite_f hc13 hx8;(conv=>whnf);refine Need.mk (by decide) ?_;cases hx8;(conv=>whnf);refine ⟨(), trivial, Sub.eq rfl ?_ ?_⟩
      ·(repeat ((conv=>whnf);refine nr ?_));exact trivial
      ·exact trivial
     ·replace hx8 := ite_t hc13 hx8;cases hx8;(conv=>whnf);refine ⟨(), trivial, Sub.eq rfl ?_ ?_⟩
      ·(repeat ((conv=>whnf);refine nr ?_));exact trivial
      ·exact trivial
    ·replace hx8 := ite_t hc12 hx8;cases hx8;(conv=>whnf);refine ⟨(), trivial, Sub.eq rfl ?_ ?_⟩
     ·(repeat ((conv=>whnf);refine nr ?_));exact trivial
     ·exact trivial
   ·replace hx8 := ite_t hc11 hx8;cases hx8;(conv=>whnf);refine ⟨(), trivial, Sub.eq rfl ?_ ?_⟩
    ·(repeat ((conv=>whnf);refine nr ?_));exact trivial
    ·exact trivial
  ·rintro _ _;(conv=>whnf);refine Br.mk (fun hc14 => ?_) (fun hc14 => ?_)
   ·replace h := ite_t hc14 h;(conv=>whnf);cases h;exact rfl
   ·replace h := ite_f hc14 h;(conv=>whnf);cases h;exact rfl
theorem ladderCupDraw2C {N : Nat} (hN : N ≤ 1073741824) {r1 : LadderResult} {a1 : LadderCup} {r : Bool} (h : ladderCupDraw2 N r1 a1 = some r) :
    ACalls Try.prog 76 [.d (.agg [I r1.fMatch, .list 1 (List.map I r1.fGames), .bool r1.fProtested]), .d (.ref (.agg [.int .u8 a1.fForm, I a1.fPlayers, I a1.fGames, .list 3 (List.map LadderResult.enc a1.fResults)]))] [] fun e os => e = .ret (.d (.bool r)) ∧ os = [] := by
  refine acalls_f (fresh := false) tt_ok dr_ok ⟨[2], [], [], [], [1], 0, []⟩ Try.func76 rfl Try.call76 rfl ?_
  unfold ladderCupDraw2 at h
  obtain ⟨v1, hx2, h⟩ := obind h;(conv=>whnf);refine SeqG.mk Unit (fun y => [(3, .d (.bool v1))]) (fun y => []) (fun _ => True) ?_ ?_
  ·obtain ⟨r3, hx3, hx2⟩ := obind hx2;(conv=>whnf);refine CallG.pure _ (ladderWithinC hN hx3) ?_;(conv=>whnf);refine Br.mk (fun hc2 => ?_) (fun hc2 => ?_)
   ·replace hx2 := ite_t hc2 hx2;(conv=>whnf);refine LnA.mk _ (List.length_map _) ?_;cases hx2;(conv=>whnf);refine ⟨(), trivial, Sub.eq rfl ?_ ?_⟩
    ·(repeat ((conv=>whnf);refine nr ?_));exact trivial
    ·exact trivial
   ·replace hx2 := ite_f hc2 hx2;cases hx2;(conv=>whnf);refine ⟨(), trivial, Sub.eq rfl ?_ ?_⟩
    ·(repeat ((conv=>whnf);refine nr ?_));exact trivial
    ·exact trivial
  ·rintro _ _;(conv=>whnf);cases h;exact rfl
theorem ladderAll1XC {N : Nat} (hN : N ≤ 1073741824) {x1 : LadderResult} {a1 : LadderCup} {r : Bool} (h : ladderAll1X N x1 a1 = some r) :
    ACalls Try.prog 92 [.d (.agg [I x1.fMatch, .list 1 (List.map I x1.fGames), .bool x1.fProtested]), .d (.ref (.agg [.fn (.func 76) [] [.ref (.agg [.int .u8 a1.fForm, I a1.fPlayers, I a1.fGames, .list 3 (List.map LadderResult.enc a1.fResults)])]]))] [] fun e os => e = .ret (.d (.bool r)) ∧ os = [] := by
  refine acalls_f (fresh := false) tt_ok dr_ok ⟨[2], [], [], [], [], 0, []⟩ Try.func92 rfl Try.call92 rfl ?_
  unfold ladderAll1X at h
  obtain ⟨r2, hx2, h⟩ := obind h;(conv=>whnf);refine CallG.pure _ (ladderCupDraw2C hN hx2) ?_;(conv=>whnf);cases h;exact rfl
theorem slicesIndexFuncXC {N : Nat} (hN : N ≤ 1073741824) {s1 : List LadderResult} {f1 : LadderCup} {r : Int} (h : slicesIndexFuncX N s1 f1 = some r) :
    ACalls Try.prog 97 [.d (.list 3 (List.map LadderResult.enc s1)), .d (.fn (.func 92) [] [.ref (.agg [.fn (.func 76) [] [.ref (.agg [.int .u8 f1.fForm, I f1.fPlayers, I f1.fGames, .list 3 (List.map LadderResult.enc f1.fResults)])]])])] [] fun e os => e = .ret (.d (I r)) ∧ os = [] := by
  refine acalls_f (fresh := false) tt_ok dr_ok ⟨[], [], [], [], [1001], 0, []⟩ Try.func97 rfl Try.call97 rfl ?_
  unfold slicesIndexFuncX at h
  (conv=>whnf);refine SeqG.mk Unit (fun y => []) (fun y => []) (fun y => slicesIndexFuncX_k1 N = some r) ?_ ?_
  ·(conv=>whnf);refine LnA.mk _ (List.length_map _) ?_;(conv=>whnf);refine LoopG.mk (Nat × (Int × Int)) (fun y => [(0, .d (.list 3 (List.map LadderResult.enc s1))), (1, .d (.fn (.func 92) [] [.ref (.agg [.fn (.func 76) [] [.ref (.agg [.int .u8 f1.fForm, I f1.fPlayers, I f1.fGames, .list 3 (List.map LadderResult.enc f1.fResults)])]])])), (7, .d (I y.2.1)), (8, .d (I y.2.2))]) (fun y => []) (fun y => loopN (fun rr x => slicesIndexFuncX_b2 N s1 f1 rr x.1 x.2) y.1 y.2 = some r) (fun y => y.1) (N, ((s1.length : Int), 0)) h (Sub.eq rfl ?_ ?_) ?_
   ·(repeat ((conv=>whnf);refine nr ?_));exact trivial
   ·exact trivial
   ·rintro ⟨n2, ⟨v17, v18⟩⟩ hl2;obtain ⟨n2, rfl, hl2⟩ := loopN_some hl2;replace hl2 : slicesIndexFuncX_b2 N s1 f1 (loopN (fun rr x => slicesIndexFuncX_b2 N s1 f1 rr x.1 x.2) n2) v17 v18 = some r := hl2;rw [slicesIndexFuncX_b2] at hl2;(conv=>whnf);refine Br.mk (fun hc22 => ?_) (fun hc22 => ?_)
    ·replace hl2 := ite_t hc22 hl2;obtain ⟨x24, hx47, hl2⟩ := obind hl2;(conv=>whnf);refine Side.mk rfl ⟨_, idx_0 hx47, idx_map _ hx47, ?_⟩;obtain ⟨r24, hx48, hl2⟩ := obind hl2;(conv=>whnf);refine CallG.pure _ (ladderAll1XC hN hx48) ?_;(conv=>whnf);refine Br.mk (fun hc24 => ?_) (fun hc24 => ?_)
     ·replace hl2 := ite_t hc24 hl2;(conv=>whnf);cases hl2;exact rfl
     ·replace hl2 := ite_f hc24 hl2;(conv=>whnf);refine ⟨(n2, (v17, w64 (v18 + 1))), hl2, Sub.eq rfl ?_ ?_, Nat.lt_succ_self _⟩
      ·(repeat ((conv=>whnf);refine nr ?_));exact trivial
      ·exact trivial
    ·replace hl2 := ite_f hc22 hl2;(conv=>whnf);refine ⟨(), hl2, Sub.eq rfl ?_ ?_⟩
     ·(repeat ((conv=>whnf);refine nr ?_));exact trivial
     ·exact trivial
  ·clear h;rintro _ h;unfold slicesIndexFuncX_k1 at h;(conv=>whnf);cases h;exact rfl
theorem slicesContainsFuncXC {N : Nat} (hN : N ≤ 1073741824) {s1 : List LadderResult} {f1 : LadderCup} {r : Bool} (h : slicesContainsFuncX N s1 f1 = some r) :
    ACalls Try.prog 91 [.d (.list 3 (List.map LadderResult.enc s1)), .d (.fn (.func 92) [] [.ref (.agg [.fn (.func 76) [] [.ref (.agg [.int .u8 f1.fForm, I f1.fPlayers, I f1.fGames, .list 3 (List.map LadderResult.enc f1.fResults)])]])])] [] fun e os => e = .ret (.d (.bool r)) ∧ os = [] := by
  refine acalls_f (fresh := false) tt_ok dr_ok ⟨[], [], [], [], [], 0, []⟩ Try.func91 rfl Try.call91 rfl ?_
  unfold slicesContainsFuncX at h
  obtain ⟨r2, hx2, h⟩ := obind h;(conv=>whnf);refine CallG.pure _ (slicesIndexFuncXC hN hx2) ?_;(conv=>whnf);cases h;exact rfl
theorem ladderAllXC {N : Nat} (hN : N ≤ 1073741824) {l1 : List LadderResult} {right1 : LadderCup} {r : Bool} (h : ladderAllX N l1 right1 = some r) :
    ACalls Try.prog 78 [.d (.list 3 (List.map LadderResult.enc l1)), .d (.fn (.func 76) [] [.ref (.agg [.int .u8 right1.fForm, I right1.fPlayers, I right1.fGames, .list 3 (List.map LadderResult.enc right1.fResults)])])] [] fun e os => e = .ret (.d (.bool r)) ∧ os = [] := by
  refine acalls_f (fresh := false) tt_ok dr_ok ⟨[3], [], [], [], [], 0, []⟩ Try.func78 rfl Try.call78 rfl ?_
  unfold ladderAllX at h
  obtain ⟨r2, hx2, h⟩ := obind h;(conv=>whnf);refine CallG.pure _ (slicesContainsFuncXC hN hx2) ?_;(conv=>whnf);cases h;exact rfl
theorem ladderPlayerC {N : Nat} (hN : N ≤ 1073741824) {n1 : Int} {r : LadderSide} (h : ladderPlayer N n1 = some r) :
    ACalls Try.prog 90 [.d (I n1)] [] fun e os => e = .ret (.d (.agg [I r.fPlayer, I r.fMatch])) ∧ os = [] := by
  refine acalls_f (fresh := false) tt_ok dr_ok ⟨[], [], [], [], [], 0, []⟩ Try.func90 rfl Try.call90 rfl ?_
  unfold ladderPlayer at h
  (conv=>whnf);intro b2;(conv=>whnf);refine sr ?_;(conv=>whnf);refine sr ?_;(conv=>whnf);cases h;exact rfl
theorem ladderWinnerC {N : Nat} (hN : N ≤ 1073741824) {n1 : Int} {r : LadderSide} (h : ladderWinner N n1 = some r) :
    ACalls Try.prog 94 [.d (I n1)] [] fun e os => e = .ret (.d (.agg [I r.fPlayer, I r.fMatch])) ∧ os = [] := by
  refine acalls_f (fresh := false) tt_ok dr_ok ⟨[], [], [], [], [], 0, []⟩ Try.func94 rfl Try.call94 rfl ?_
  unfold ladderWinner at h
  (conv=>whnf);intro b2;(conv=>whnf);refine sr ?_;(conv=>whnf);refine sr ?_;(conv=>whnf);cases h;exact rfl
theorem ladderCupLadderC {N : Nat} (hN : N ≤ 1073741824) {c1 : LadderCup} {r : (List LadderPair)} (h : ladderCupLadder N c1 = some r) :
    ACalls Try.prog 85 [.d (.agg [.int .u8 c1.fForm, I c1.fPlayers, I c1.fGames, .list 3 (List.map LadderResult.enc c1.fResults)])] [] fun e os => e = .ret (.d (.list 4 (List.map LadderPair.enc r))) ∧ os = [] := by
  refine acalls_f (fresh := false) tt_ok dr_ok ⟨[1], [], [], [], [1003], 0, []⟩ Try.func85 rfl Try.call85 rfl ?_
  unfold ladderCupLadder at h
  obtain ⟨r3, hx3, h⟩ := obind h;(conv=>whnf);refine CallG.pure _ (ladderPlayerC hN hx3) ?_;obtain ⟨r4, hx4, h⟩ := obind h;(conv=>whnf);refine CallG.pure _ (ladderPlayerC hN hx4) ?_;(conv=>whnf);intro hd2;obtain ⟨l12, hx23, h⟩ := obind h;(conv=>whnf);refine SeqG.mk Value (fun y => [(4, .sl 15 y)]) (fun y => [(15, .arr y 68 4 false (List.map LadderPair.enc l12))]) (fun _ => True) ?_ ?_
  ·(conv=>whnf);refine LoopG.mk (Nat × (Int × Int × (List LadderPair)) × Value) (fun y => [(3, .d (I y.2.1.1)), (4, .sl 15 y.2.2), (5, .d (I y.2.1.2.1))]) (fun y => [(15, .arr y.2.2 68 4 false (List.map LadderPair.enc y.2.1.2.2))]) (fun y => loopN (fun rr x => ladderCupLadder_b1 N rr x.1 x.2.1 x.2.2) y.1 y.2.1 = some l12) (fun y => y.1) (N, (w64 (c1.fPlayers - 1), 1, [(LadderPair.mk r3 r4)]), hd2) hx23 (Sub.eq rfl ?_ ?_) ?_
   ·(repeat ((conv=>whnf);refine nr ?_));exact trivial
   ·(conv=>whnf);refine no ?_;exact trivial
   ·rintro ⟨n10, ⟨last10, n9, l21⟩, hd31⟩ hl2;obtain ⟨n10, rfl, hl2⟩ := loopN_some hl2;replace hl2 : ladderCupLadder_b1 N (loopN (fun rr x => ladderCupLadder_b1 N rr x.1 x.2.1 x.2.2) n10) last10 n9 l21 = some l12 := hl2;rw [ladderCupLadder_b1] at hl2;(conv=>whnf);refine Br.mk (fun hc12 => ?_) (fun hc12 => ?_)
    ·replace hl2 := ite_t hc12 hl2;obtain ⟨r27, hx39, hl2⟩ := obind hl2;(conv=>whnf);refine CallG.pure _ (ladderPlayerC hN hx39) ?_;obtain ⟨r28, hx40, hl2⟩ := obind hl2;(conv=>whnf);refine CallG.pure _ (ladderWinnerC hN hx40) ?_;(conv=>whnf);intro hd34;obtain ⟨l23, hx41, hl2⟩ := obind hl2;(conv=>whnf);refine Side.mk ⟨rfl, rfl⟩ ?_;(conv=>whnf);refine Side.mk ⟨rfl, rfl, rfl⟩ (Need.mk (app_need hN hx41 (by decide)) (Eqv.mk (List.map LadderPair.enc l23) (app_map _ hx41) ?_));(conv=>whnf);intro hd35;(conv=>whnf);refine ⟨(n10, (last10, w64 (n9 + 1), l23), hd35), hl2, Sub.eq rfl ?_ ?_, Nat.lt_succ_self _⟩
     ·(repeat ((conv=>whnf);refine nr ?_));exact trivial
     ·(conv=>whnf);refine no ?_;exact trivial
    ·replace hl2 := ite_f hc12 hl2;cases hl2;(conv=>whnf);refine ⟨hd31, trivial, Sub.eq rfl ?_ ?_⟩
     ·(repeat ((conv=>whnf);refine nr ?_));exact trivial
     ·(conv=>whnf);refine no ?_;exact trivial
  ·rintro hd19 _;(conv=>whnf);refine sr ?_;(conv=>whnf);cases h;exact rfl
theorem ladderCupOrder1C_n {N : Nat} (hN : N ≤ 1073741824) (nrec : Nat) : ∀ {l1 : List Int} {a1 : LadderCup} {c1 : LadderCup} {bo1 : Nat} {r : (List Int)} (h : loopN (fun rr x => ladderCupOrder1_f N rr x.1 x.2.1 x.2.2) nrec (l1, a1, c1) = some r),
    ACalls Try.prog 98 [.d (.list 1 (List.map I l1)), .d (.ref (.agg [.int .u8 a1.fForm, I a1.fPlayers, I a1.fGames, .list 3 (List.map LadderResult.enc a1.fResults)])), .ptr 3 bo1 0] [(3, .cells bo1 [.fn (.func 98) [] [.d (.ref (.agg [.int .u8 c1.fForm, I c1.fPlayers, I c1.fGames, .list 3 (List.map LadderResult.enc c1.fResults)])), .ptr 3 bo1 0]])] fun ae os => ∃ y : Unit, True ∧ ae = .ret (.d (.list 1 (List.map I r))) ∧ os = [(3, .cells bo1 [.fn (.func 98) [] [.d (.ref (.agg [.int .u8 c1.fForm, I c1.fPlayers, I c1.fGames, .list 3 (List.map LadderResult.enc c1.fResults)])), .ptr 3 bo1 0]])] := by
  induction nrec with
  | zero => intro l1 a1 c1 bo1 r h; cases h
  | succ nrec ih =>
  intro l1 a1 c1 bo1 r h
  replace h : ladderCupOrder1_f N (loopN (fun rr x => ladderCupOrder1_f N rr x.1 x.2.1 x.2.2) nrec) l1 a1 c1 = some r := h
  refine acalls_own (fresh := false) tt_ok dr_ok ⟨[], [], [], [], [1004], 10000, []⟩ Try.func98 rfl Try.call98 rfl ?_
  unfold ladderCupOrder1_f at h
  (conv=>whnf);refine LnA.mk _ (List.length_map _) ?_;(conv=>whnf);refine Br.mk (fun hc2 => ?_) (fun hc2 => ?_)
  ·replace h := ite_t hc2 h;(conv=>whnf);cases h;exact ⟨(), trivial, rfl, inO_at (ren := id) (And.intro rfl trivial)⟩
  ·replace h := ite_f hc2 h;obtain ⟨l12, hx19, h⟩ := obind h;(conv=>whnf);refine SeqG.mk Value (fun y => [(2, .ptr 3 bo1 0), (5, .sl 10029 y)]) (fun y => [(3, .cells bo1 [.fn (.func 98) [] [.d (.ref (.agg [.int .u8 c1.fForm, I c1.fPlayers, I c1.fGames, .list 3 (List.map LadderResult.enc c1.fResults)])), .ptr 3 bo1 0]]), (10029, .arr y 3 1 false (List.map I l12))]) (fun _ => True) ?_ ?_
   ·(conv=>whnf);refine LnA.mk _ (List.length_map _) ?_;(conv=>whnf);refine LoopG.mk (Nat × (Int × Int × (List Int)) × Value) (fun y => [(0, .d (.list 1 (List.map I l1))), (2, .ptr 3 bo1 0), (5, .sl 10029 y.2.2), (14, .d (.list 1 (List.map I l1))), (15, .d (I y.2.1.1)), (16, .d (I y.2.1.2.1))]) (fun y => [(3, .cells bo1 [.fn (.func 98) [] [.d (.ref (.agg [.int .u8 c1.fForm, I c1.fPlayers, I c1.fGames, .list 3 (List.map LadderResult.enc c1.fResults)])), .ptr 3 bo1 0]]), (10029, .arr y.2.2 3 1 false (List.map I y.2.1.2.2))]) (fun y => loopN (fun rr x => ladderCupOrder1_b1 N l1 rr x.1 x.2.1 x.2.2) y.1 y.2.1 = some l12) (fun y => y.1) (N, ((l1.length : Int), 0, []), (.slice none 0 0)) hx19 (Sub.eq rfl ?_ ?_) ?_
    ·(repeat ((conv=>whnf);refine nr ?_));exact trivial
    ·(conv=>whnf);refine no ?_;(conv=>whnf);refine Need.mk (OLe.nil _ _ _ _) ?_;exact trivial
    ·rintro ⟨n2, ⟨v17, v18, l20⟩, hd29⟩ hl2;obtain ⟨n2, rfl, hl2⟩ := loopN_some hl2;replace hl2 : ladderCupOrder1_b1 N l1 (loopN (fun rr x => ladderCupOrder1_b1 N l1 rr x.1 x.2.1 x.2.2) n2) v17 v18 l20 = some l12 := hl2;rw [ladderCupOrder1_b1] at hl2;(conv=>whnf);refine Br.mk (fun hc14 => ?_) (fun hc14 => ?_)
     ·replace hl2 := ite_t hc14 hl2;obtain ⟨x24, hx36, hl2⟩ := obind hl2;(conv=>whnf);refine Side.mk rfl ⟨_, idx_0 hx36, idx_map _ hx36, ?_⟩;(conv=>whnf);refine LnA.mk _ (List.length_map _) ?_;(conv=>whnf);intro hd32;obtain ⟨l22, hx37, hl2⟩ := obind hl2;(conv=>whnf);refine Side.mk ⟨rfl, rfl⟩ ?_;(conv=>whnf);refine Side.mk ⟨rfl, rfl, rfl⟩ (Need.mk (app_need hN hx37 (by decide)) (Eqv.mk (List.map I l22) (app_map _ hx37) ?_));(conv=>whnf);intro hd33;(conv=>whnf);refine ⟨(n2, (v17, w64 (v18 + 1), l22), hd33), hl2, Sub.eq rfl ?_ ?_, Nat.lt_succ_self _⟩
      ·(repeat ((conv=>whnf);refine nr ?_));exact trivial
      ·(conv=>whnf);refine no ?_;(conv=>whnf);refine no ?_;exact trivial
     ·replace hl2 := ite_f hc14 hl2;cases hl2;(conv=>whnf);refine ⟨hd29, trivial, Sub.eq rfl ?_ ?_⟩
      ·(repeat ((conv=>whnf);refine nr ?_));exact trivial
      ·(conv=>whnf);refine no ?_;(conv=>whnf);refine no ?_;exact trivial
   ·rintro hd17 _;(conv=>whnf);refine sr ?_;obtain ⟨r2, hx39, h⟩ := obind h;(conv=>whnf);refine sr ?_;(conv=>whnf);refine CallG.own (ih (bo1 := bo1) hx39) id [(10029, .arr hd17 3 1 true (List.map I l12))] _ (fun y => [(3, .cells bo1 [.fn (.func 98) [] [.d (.ref (.agg [.int .u8 c1.fForm, I c1.fPlayers, I c1.fGames, .list 3 (List.map LadderResult.enc c1.fResults)])), .ptr 3 bo1 0]]), (10029, .arr hd17 3 1 true (List.map I l12))]) (all2_le_refl _) (And.intro rfl trivial) rfl (And.intro rfl trivial) (And.intro rfl trivial) (fun _ => AV.le_refl _) (fun _ => rfl) ?_;rintro _ _;(conv=>whnf);cases h;exact ⟨(), trivial, rfl, inO_at (ren := id) (And.intro rfl trivial)⟩
theorem ladderCupOrder1C {N : Nat} (hN : N ≤ 1073741824) {l1 : List Int} {a1 : LadderCup} {c1 : LadderCup} {bo1 : Nat} {r : (List Int)} (h : ladderCupOrder1 N l1 a1 c1 = some r) :
    ACalls Try.prog 98 [.d (.list 1 (List.map I l1)), .d (.ref (.agg [.int .u8 a1.fForm, I a1.fPlayers, I a1.fGames, .list 3 (List.map LadderResult.enc a1.fResults)])), .ptr 3 bo1 0] [(3, .cells bo1 [.fn (.func 98) [] [.d (.ref (.agg [.int .u8 c1.fForm, I c1.fPlayers, I c1.fGames, .list 3 (List.map LadderResult.enc c1.fResults)])), .ptr 3 bo1 0]])] fun ae os => ∃ y : Unit, True ∧ ae = .ret (.d (.list 1 (List.map I r))) ∧ os = [(3, .cells bo1 [.fn (.func 98) [] [.d (.ref (.agg [.int .u8 c1.fForm, I c1.fPlayers, I c1.fGames, .list 3 (List.map LadderResult.enc c1.fResults)])), .ptr 3 bo1 0]])] := ladderCupOrder1C_n hN N h
theorem ladderCupOrderC {N : Nat} (hN : N ≤ 1073741824) {c1 : LadderCup} {r : (List Int)} (h : ladderCupOrder N c1 = some r) :
    ACalls Try.prog 95 [.d (.agg [.int .u8 c1.fForm, I c1.fPlayers, I c1.fGames, .list 3 (List.map LadderResult.enc c1.fResults)])] [] fun e os => e = .ret (.d (.list 1 (List.map I r))) ∧ os = [] := by
  refine acalls_f (fresh := false) tt_ok dr_ok ⟨[1], [], [], [], [], 0, []⟩ Try.func95 rfl Try.call95 rfl ?_
  unfold ladderCupOrder at h
  (conv=>whnf);intro b2;(conv=>whnf);refine sr ?_;(conv=>whnf);refine sr ?_;(conv=>whnf);intro hd2;obtain ⟨r2, hx2, h⟩ := obind h;(conv=>whnf);refine sr ?_;(conv=>whnf);refine CallG.own (ladderCupOrder1C (bo1 := b2) hN hx2) id [(6, .arr hd2 3 1 true (List.map I ([0])))] _ (fun y => [(3, .cells b2 [.fn (.func 98) [] [.d (.ref (.agg [.int .u8 c1.fForm, I c1.fPlayers, I c1.fGames, .list 3 (List.map LadderResult.enc c1.fResults)])), .ptr 3 b2 0]]), (6, .arr hd2 3 1 true (List.map I ([0])))]) (all2_le_refl _) (And.intro rfl trivial) rfl (And.intro rfl trivial) (And.intro rfl trivial) (fun _ => AV.le_refl _) (fun _ => rfl) ?_;rintro _ _;(conv=>whnf);cases h;exact rfl
theorem slicesChunkC {N : Nat} (hN : N ≤ 1073741824) {s1 : List LadderSide} {n1 : Int} {r : (List LadderSide) × Int} (h : slicesChunk N s1 n1 = some r) :
    ACalls Try.prog 96 [.d (.list 2 (List.map LadderSide.enc s1)), .d (I n1)] [] fun e os => e = .ret (.d (.fn (.func 99) [] [.ref (.agg [.list 2 (List.map LadderSide.enc r.1)]), .ref (.agg [I r.2])])) ∧ os = [] := by
  refine acalls_f (fresh := false) tt_ok dr_ok ⟨[2, 3], [], [], [], [], 0, []⟩ Try.func96 rfl Try.call96 rfl ?_
  unfold slicesChunk at h
  (conv=>whnf);refine Br.mk (fun hc2 => ?_) (fun hc2 => ?_)
  ·replace h := ite_t hc2 h;cases h
  ·replace h := ite_f hc2 h;(conv=>whnf);cases h;exact rfl
theorem ladderCupBracketC {N : Nat} (hN : N ≤ 1073741824) {c1 : LadderCup} {r : (List LadderPair)} (h : ladderCupBracket N c1 = some r) :
    ACalls Try.prog 86 [.d (.agg [.int .u8 c1.fForm, I c1.fPlayers, I c1.fGames, .list 3 (List.map LadderResult.enc c1.fResults)])] [] fun e os => e = .ret (.d (.list 4 (List.map LadderPair.enc r))) ∧ os = [] := by
  refine acalls_f (fresh := false) tt_ok dr_ok ⟨[1], [], [], [], [1003, 1007, 1011, 1013], 0, []⟩ Try.func86 rfl Try.call86 rfl ?_
  unfold ladderCupBracket at h
  (conv=>whnf);intro b2;(conv=>whnf);intro b4;(conv=>whnf);refine sr ?_;obtain ⟨l11, hx39, h⟩ := obind h;(conv=>whnf);refine SeqG.mk Value (fun y => [(2, .ptr 2 b2 0), (3, .ptr 3 b4 0), (4, .sl 28 y)]) (fun y => [(2, .cells b2 [.nils 4]), (3, .cells b4 [.d (I (-1)), .d (I (-1))]), (28, .arr y 66 2 false (List.map LadderSide.enc l11))]) (fun _ => True) ?_ ?_
  ·obtain ⟨r16, hx41, hx39⟩ := obind hx39;(conv=>whnf);refine CallG.pure _ (ladderCupOrderC hN hx41) ?_;(conv=>whnf);refine LnA.mk _ (List.length_map _) ?_;(conv=>whnf);refine LoopG.mk (Nat × (Int × Int × (List LadderSide)) × Value) (fun y => [(1, .d (.ref (.agg [.int .u8 c1.fForm, I c1.fPlayers, I c1.fGames, .list 3 (List.map LadderResult.enc c1.fResults)]))), (2, .ptr 2 b2 0), (3, .ptr 3 b4 0), (4, .sl 28 y.2.2), (12, .d (.list 1 (List.map I r16))), (13, .d (I y.2.1.1)), (14, .d (I y.2.1.2.1))]) (fun y => [(2, .cells b2 [.nils 4]), (3, .cells b4 [.d (I (-1)), .d (I (-1))]), (28, .arr y.2.2 66 2 false (List.map LadderSide.enc y.2.1.2.2))]) (fun y => loopN (fun rr x => ladderCupBracket_b1 N c1 r16 rr x.1 x.2.1 x.2.2) y.1 y.2.1 = some l11) (fun y => y.1) (N, ((r16.length : Int), 0, []), (.slice none 0 0)) hx39 (Sub.eq rfl ?_ ?_) ?_
   ·(repeat ((conv=>whnf);refine nr ?_));exact trivial
   ·(conv=>whnf);refine no ?_;(conv=>whnf);refine no ?_;(conv=>whnf);refine Need.mk (OLe.nil _ _ _ _) ?_;exact trivial
   ·rintro ⟨n2, ⟨v17, v18, l19⟩, hd29⟩ hl2;obtain ⟨n2, rfl, hl2⟩ := loopN_some hl2;replace hl2 : ladderCupBracket_b1 N c1 r16 (loopN (fun rr x => ladderCupBracket_b1 N c1 r16 rr x.1 x.2.1 x.2.2) n2) v17 v18 l19 = some l11 := hl2;rw [ladderCupBracket_b1] at hl2;(conv=>whnf);refine Br.mk (fun hc32 => ?_) (fun hc32 => ?_)
    ·replace hl2 := ite_t hc32 hl2;obtain ⟨x24, hx73, hl2⟩ := obind hl2;(conv=>whnf);refine Side.mk rfl ⟨_, idx_0 hx73, idx_map _ hx73, ?_⟩;(conv=>whnf);refine sr ?_;(conv=>whnf);intro b28;(conv=>whnf);refine sr ?_;obtain ⟨side12, hx75, hl2⟩ := obind hl2;(conv=>whnf);refine SeqG.mk Unit (fun y => [(1, .d (.ref (.agg [.int .u8 c1.fForm, I c1.fPlayers, I c1.fGames, .list 3 (List.map LadderResult.enc c1.fResults)]))), (2, .ptr 2 b2 0), (3, .ptr 3 b4 0), (4, .sl 28 hd29), (7, .ptr 7 b28 0), (12, .d (.list 1 (List.map I r16))), (13, .d (I v17)), (14, .d (I v18))]) (fun y => [(2, .cells b2 [.nils 4]), (3, .cells b4 [.d (I (-1)), .d (I (-1))]), (28, .arr hd29 66 2 false (List.map LadderSide.enc l19)), (7, .cells b28 [.d (I side12.fPlayer), .d (I side12.fMatch)])]) (fun _ => True) ?_ ?_
     ·(conv=>whnf);refine Br.mk (fun hc36 => ?_) (fun hc36 => ?_)
      ·replace hx75 := ite_t hc36 hx75;obtain ⟨r28, hx76, hx75⟩ := obind hx75;(conv=>whnf);refine CallG.pure _ (ladderPlayerC hN hx76) ?_;(conv=>whnf);refine sr ?_;cases hx75;(conv=>whnf);refine ⟨(), trivial, Sub.eq rfl ?_ ?_⟩
       ·(repeat ((conv=>whnf);refine nr ?_));exact trivial
       ·(conv=>whnf);refine no ?_;(conv=>whnf);refine no ?_;(conv=>whnf);refine no ?_;(conv=>whnf);refine no ?_;exact trivial
      ·replace hx75 := ite_f hc36 hx75;cases hx75;(conv=>whnf);refine ⟨(), trivial, Sub.eq rfl ?_ ?_⟩
       ·(repeat ((conv=>whnf);refine nr ?_));exact trivial
       ·(conv=>whnf);refine no ?_;(conv=>whnf);refine no ?_;(conv=>whnf);refine no ?_;(conv=>whnf);refine no ?_;exact trivial
     ·rintro _ _;(conv=>whnf);refine sr ?_;(conv=>whnf);intro hd32;obtain ⟨l21, hx77, hl2⟩ := obind hl2;(conv=>whnf);refine Side.mk ⟨rfl, rfl⟩ ?_;(conv=>whnf);refine Side.mk ⟨rfl, rfl, rfl⟩ (Need.mk (app_need hN hx77 (by decide)) (Eqv.mk (List.map LadderSide.enc l21) (app_map _ hx77) ?_));(conv=>whnf);intro hd33;(conv=>whnf);refine ⟨(n2, (v17, w64 (v18 + 1), l21), hd33), hl2, Sub.eq rfl ?_ ?_, Nat.lt_succ_self _⟩
      ·(repeat ((conv=>whnf);refine nr ?_));exact trivial
      ·(conv=>whnf);refine no ?_;(conv=>whnf);refine no ?_;(conv=>whnf);refine no ?_;exact trivial
    ·replace hl2 := ite_f hc32 hl2;cases hl2;(conv=>whnf);refine ⟨hd29, trivial, Sub.eq rfl ?_ ?_⟩
     ·(repeat ((conv=>whnf);refine nr ?_));exact trivial
     ·(conv=>whnf);refine no ?_;(conv=>whnf);refine no ?_;(conv=>whnf);refine no ?_;exact trivial
  ·rintro hd17 _;obtain ⟨l660, hx1137, h⟩ := obind h;(conv=>whnf);refine SeqG.mk Value (fun y => [(2, .ptr 2 b2 0)]) (fun y => [(2, .cells b2 [.sl 52 y]), (52, .arr y 68 4 false (List.map LadderPair.enc l660))]) (fun _ => True) ?_ ?_
   ·(conv=>whnf);refine LoopG.mk (Nat × ((List LadderSide) × (List LadderPair)) × Value × Value) (fun y => [(2, .ptr 2 b2 0), (3, .ptr 3 b4 0), (4, .sl 28 y.2.2.1)]) (fun y => [(2, .cells b2 [.sl 52 y.2.2.2]), (3, .cells b4 [.d (I (-1)), .d (I (-1))]), (28, .arr y.2.2.1 66 2 false (List.map LadderSide.enc y.2.1.1)), (52, .arr y.2.2.2 68 4 false (List.map LadderPair.enc y.2.1.2))]) (fun y => loopN (fun rr x => ladderCupBracket_b4 N rr x.1 x.2) y.1 y.2.1 = some l660) (fun y => y.1) (N, (l11, []), hd17, (.slice none 0 0)) hx1137 (Sub.eq rfl ?_ ?_) ?_
    ·(repeat ((conv=>whnf);refine nr ?_));exact trivial
    ·(conv=>whnf);refine Need.mk (OLe.cells _ _ _ (by repeat (first | exact trivial | ((conv => whnf); refine Need.mk rfl ?_)))) ?_;(conv=>whnf);refine no ?_;(conv=>whnf);refine no ?_;(conv=>whnf);refine Need.mk (OLe.nil _ _ _ _) ?_;exact trivial
    ·rintro ⟨n14, ⟨l1087, l1088⟩, hd2659, hd2660⟩ hl14;obtain ⟨n14, rfl, hl14⟩ := loopN_some hl14;replace hl14 : ladderCupBracket_b4 N (loopN (fun rr x => ladderCupBracket_b4 N rr x.1 x.2) n14) l1087 l1088 = some l660 := hl14;rw [ladderCupBracket_b4] at hl14;(conv=>whnf);refine SeqG.mk Unit (fun y => [(2, .ptr 2 b2 0), (3, .ptr 3 b4 0), (4, .sl 28 hd2659)]) (fun y => [(2, .cells b2 [.sl 52 hd2660]), (3, .cells b4 [.d (I (-1)), .d (I (-1))]), (28, .arr hd2659 66 2 false (List.map LadderSide.enc l1087)), (52, .arr hd2660 68 4 false (List.map LadderPair.enc l1088))]) (fun y => ladderCupBracket_k3 N l1087 l1088 (loopN (fun rr x => ladderCupBracket_b4 N rr x.1 x.2) n14) = some l660) ?_ ?_
     ·(conv=>whnf);refine Side.mk rfl (LnA.mk _ (List.length_map _) ?_);(conv=>whnf);refine Br.mk (fun hc408 => ?_) (fun hc408 => ?_)
      ·replace hl14 := ite_t hc408 hl14;(conv=>whnf);refine ⟨(), hl14, Sub.eq rfl ?_ ?_⟩
       ·(repeat ((conv=>whnf);refine nr ?_));exact trivial
       ·(conv=>whnf);refine no ?_;(conv=>whnf);refine no ?_;(conv=>whnf);refine no ?_;(conv=>whnf);refine no ?_;exact trivial
      ·replace hl14 := ite_f hc408 hl14;cases hl14;(conv=>whnf);refine ⟨hd2660, trivial, Sub.eq rfl ?_ ?_⟩
       ·(repeat ((conv=>whnf);refine nr ?_));exact trivial
       ·(conv=>whnf);refine no ?_;(conv=>whnf);refine no ?_;exact trivial
     ·rintro _ h;unfold ladderCupBracket_k3 at h;(conv=>whnf);intro b40;obtain ⟨⟨l1193, l1194⟩, hx2020, h⟩ := obind h;(conv=>whnf);refine SeqG.mk (Value × Value) (fun y => [(2, .ptr 2 b2 0), (3, .ptr 3 b4 0), (8, .ptr 8 b40 0)]) (fun y => [(2, .cells b2 [.sl 52 y.1]), (3, .cells b4 [.d (I (-1)), .d (I (-1))]), (8, .cells b40 [.sl 63 y.2]), (52, .arr y.1 68 4 false (List.map LadderPair.enc l1193)), (63, .arr y.2 66 2 false (List.map LadderSide.enc l1194))]) (fun _ => True) ?_ ?_
      ·obtain ⟨⟨ra24, rb24⟩, hx2022, hx2020⟩ := obind hx2020;(conv=>whnf);refine sr ?_;(conv=>whnf);refine CallG.pure _ (slicesChunkC hN hx2022) ?_;(conv=>whnf);intro lp12 rc12;refine IterG.mk _ _ ⟨[], [], [], [], [4], 2000, []⟩ Try.func99 rfl Try.call99 rfl rfl ?_;(conv=>whnf)
       refine LoopG.mk (Nat × (Int × (List LadderPair) × (List LadderSide)) × Value × Value) (fun y => [(0, .fn (.yield lp12) [] []), (1, .d (.ref (.agg [.list 2 (List.map LadderSide.enc ra24)]))), (2, .d (.ref (.agg [I rb24]))), (4, .d (I y.2.1.1))]) (fun y => [(2, .cells b2 [.sl 52 y.2.2.1]), (3, .cells b4 [.d (I (-1)), .d (I (-1))]), (28, .arr hd2659 66 2 true (List.map LadderSide.enc l1087)), (8, .cells b40 [.sl 63 y.2.2.2]), (1000, .loop lp12 rc12 none), (52, .arr y.2.2.1 68 4 false (List.map LadderPair.enc y.2.1.2.1)), (63, .arr y.2.2.2 66 2 false (List.map LadderSide.enc y.2.1.2.2))]) (fun y => loopN (fun rr x => ladderCupBracket_b2 N ra24 rb24 rr x.1 x.2.1 x.2.2) y.1 y.2.1 = some (l1193, l1194)) (fun y => y.1) (N, (0, l1088, []), hd2660, (.slice none 0 0)) hx2020 (Sub.eq rfl ?_ ?_) ?_
       ·(repeat ((conv=>whnf);refine nr ?_));exact trivial
       ·(conv=>whnf);refine no ?_;(conv=>whnf);refine no ?_;(conv=>whnf);refine no ?_;(conv=>whnf);refine Need.mk (OLe.cells _ _ _ (by repeat (first | exact trivial | ((conv => whnf); refine Need.mk rfl ?_)))) ?_;(conv=>whnf);refine no ?_;(conv=>whnf);refine no ?_;(conv=>whnf);refine Need.mk (OLe.nil _ _ _ _) ?_;exact trivial
       ·rintro ⟨n16, ⟨sides48, l1265, l1266⟩, hd3097, hd3098⟩ hl16;obtain ⟨n16, rfl, hl16⟩ := loopN_some hl16;replace hl16 : ladderCupBracket_b2 N ra24 rb24 (loopN (fun rr x => ladderCupBracket_b2 N ra24 rb24 rr x.1 x.2.1 x.2.2) n16) sides48 l1265 l1266 = some (l1193, l1194) := hl16;rw [ladderCupBracket_b2] at hl16;(conv=>whnf);refine LnA.mk _ (List.length_map _) ?_;(conv=>whnf);refine Br.mk (fun hc399 => ?_) (fun hc399 => ?_)
        ·replace hl16 := ite_t hc399 hl16;obtain ⟨l1284, hx2169, hl16⟩ := obind hl16;(conv=>whnf);refine DrawG.mk (.take 0 (.take 1 (.take 2 (.alt 3 [0] (.take 4 (.take 5 (.take 6 .done))) .nil)))) (by kernel_rfl) ?_;(conv=>whnf);refine Both.mk ?_ trivial;(conv=>whnf);refine Need.mk (slc_needL _ hx2169) (Eqv.mk (List.map LadderSide.enc l1284) (slc_mapL _ hx2169) ?_);(conv=>whnf);refine nl ?_;(conv=>whnf);refine LnA.mk _ (List.length_map _) ?_;obtain ⟨⟨l1291, l1292⟩, hx2183, hl16⟩ := obind hl16;(conv=>whnf)
         refine SeqG.mk (Value × Value) (fun y => [(0, .fn (.yield lp12) [] []), (1, .d (.ref (.agg [.list 2 (List.map LadderSide.enc ra24)]))), (2, .d (.ref (.agg [I rb24]))), (4, .d (I sides48)), (30, .b false)]) (fun y => [(2, .cells b2 [.sl 52 y.1]), (3, .cells b4 [.d (I (-1)), .d (I (-1))]), (28, .arr hd2659 66 2 true (List.map LadderSide.enc l1087)), (8, .cells b40 [.sl 63 y.2]), (1000, .loop lp12 rc12 none), (52, .arr y.1 68 4 false (List.map LadderPair.enc l1291)), (63, .arr y.2 66 2 false (List.map LadderSide.enc l1292))]) (fun _ => True) ?_ ?_
         ·obtain ⟨l1293, hx2184, hx2183⟩ := obind hx2183;(conv=>whnf);refine Need.mk (slc_need3 _ hx2184) (Eqv.mk (List.map LadderSide.enc l1293) (slc_map _ hx2184) ?_);(conv=>whnf);refine Side.mk ⟨rfl, rfl, rfl⟩ ?_;(conv=>whnf);refine sr ?_;obtain ⟨x741, hx2186, hx2183⟩ := obind hx2183;(conv=>whnf);refine Side.mk rfl ⟨_, idx_0 hx2186, idx_map _ hx2186, ?_⟩;(conv=>whnf);refine Need.mk ⟨rfl, rfl⟩ (EqB.mk _ (LadderSide.eqc ((LadderSide.mk (-1) (-1))) x741) ?_);(conv=>whnf);refine Br.mk (fun hc406 => ?_) (fun hc406 => ?_)
          ·replace hx2183 := ite_t hc406 hx2183;obtain ⟨x742, hx2187, hx2183⟩ := obind hx2183;obtain ⟨l1294, hx2188, hx2183⟩ := obind hx2183;(conv=>whnf);refine DrawG.mk (.take 0 (.take 1 (.take 2 (.take 3 (.alt 4 [2, 1, 0] (.alt 5 [2, 1] (.alt 6 [] .done .nil) .nil) .nil))))) (by kernel_rfl) ?_;(conv=>whnf);refine sr ?_;(conv=>whnf);refine Side.mk rfl ⟨_, idx_0 hx2187, idx_map _ hx2187, ?_⟩;(conv=>whnf);refine Both.mk ?_ trivial;(conv=>whnf);intro hd3165;(conv=>whnf);refine Side.mk rfl ⟨_, idx_0 hx2187, idx_map _ hx2187, ?_⟩;(conv=>whnf);refine nl ?_;(conv=>whnf);refine nl ?_;(conv=>whnf);refine sr ?_;(conv=>whnf);refine nl ?_;(conv=>whnf);refine Both.mk ?_ trivial;(conv=>whnf);refine Side.mk ⟨rfl, rfl⟩ ?_;(conv=>whnf);refine Side.mk ⟨rfl, rfl, rfl⟩ (Need.mk (app_need hN hx2188 (by decide)) (Eqv.mk (List.map LadderSide.enc l1294) (app_map _ hx2188) ?_));(conv=>whnf);intro hd3166
           (conv=>whnf);refine Side.mk rfl ⟨_, idx_0 hx2187, idx_map _ hx2187, ?_⟩;(conv=>whnf);refine nl ?_;(conv=>whnf);refine nl ?_;(conv=>whnf);refine Both.mk ?_ trivial;(conv=>whnf);refine sr ?_;cases hx2183;(conv=>whnf);refine ⟨(hd3097, hd3166), trivial, Sub.eq rfl ?_ ?_⟩
           ·(repeat ((conv=>whnf);refine nr ?_));exact trivial
           ·(conv=>whnf);refine no ?_;(conv=>whnf);refine no ?_;(conv=>whnf);refine no ?_;(conv=>whnf);refine no ?_;(conv=>whnf);refine no ?_;(conv=>whnf);refine no ?_;(conv=>whnf);refine no ?_;exact trivial
          ·replace hx2183 := ite_f hc406 hx2183;obtain ⟨x744, hx2190, hx2183⟩ := obind hx2183;(conv=>whnf);refine Side.mk rfl ⟨_, idx_0 hx2190, idx_map _ hx2190, ?_⟩;(conv=>whnf);refine Need.mk ⟨rfl, rfl⟩ (EqB.mk _ (LadderSide.eqc ((LadderSide.mk (-1) (-1))) x744) ?_);(conv=>whnf);refine Br.mk (fun hc407 => ?_) (fun hc407 => ?_)
           ·replace hx2183 := ite_t hc407 hx2183;obtain ⟨l1295, hx2191, hx2183⟩ := obind hx2183;(conv=>whnf);refine DrawG.mk (.take 0 (.take 1 (.take 2 (.take 3 (.alt 4 [2, 1, 0] (.alt 5 [2, 1] (.alt 6 [] .done .nil) .nil) .nil))))) (by kernel_rfl) ?_;(conv=>whnf);refine sr ?_;(conv=>whnf);refine Side.mk rfl ⟨_, idx_0 hx2186, idx_map _ hx2186, ?_⟩;(conv=>whnf);refine Both.mk ?_ trivial;(conv=>whnf);intro hd3169;(conv=>whnf);refine Side.mk rfl ⟨_, idx_0 hx2186, idx_map _ hx2186, ?_⟩;(conv=>whnf);refine nl ?_;(conv=>whnf);refine nl ?_;(conv=>whnf);refine sr ?_;(conv=>whnf);refine nl ?_;(conv=>whnf);refine Both.mk ?_ trivial;(conv=>whnf);refine Side.mk ⟨rfl, rfl⟩ ?_;(conv=>whnf);refine Side.mk ⟨rfl, rfl, rfl⟩ (Need.mk (app_need hN hx2191 (by decide)) (Eqv.mk (List.map LadderSide.enc l1295) (app_map _ hx2191) ?_));(conv=>whnf);intro hd3170;(conv=>whnf)
            refine Side.mk rfl ⟨_, idx_0 hx2186, idx_map _ hx2186, ?_⟩;(conv=>whnf);refine nl ?_;(conv=>whnf);refine nl ?_;(conv=>whnf);refine Both.mk ?_ trivial;(conv=>whnf);refine sr ?_;cases hx2183;(conv=>whnf);refine ⟨(hd3097, hd3170), trivial, Sub.eq rfl ?_ ?_⟩
            ·(repeat ((conv=>whnf);refine nr ?_));exact trivial
            ·(conv=>whnf);refine no ?_;(conv=>whnf);refine no ?_;(conv=>whnf);refine no ?_;(conv=>whnf);refine no ?_;(conv=>whnf);refine no ?_;(conv=>whnf);refine no ?_;(conv=>whnf);refine no ?_;exact trivial
           ·replace hx2183 := ite_f hc407 hx2183;obtain ⟨r316, hx2194, hx2183⟩ := obind hx2183;obtain ⟨l1297, hx2195, hx2183⟩ := obind hx2183;(conv=>whnf);refine DrawG.mk (.take 0 (.take 1 (.take 2 (.alt 3 [1, 0] (.alt 4 [1, 0] (.alt 5 [1] (.alt 6 [] .done .nil) .nil) .nil) .nil)))) (by kernel_rfl) ?_;(conv=>whnf);refine sr ?_;(conv=>whnf);refine sr ?_;(conv=>whnf);refine Side.mk rfl (LnA.mk _ (List.length_map _) ?_);(conv=>whnf);refine Both.mk ?_ trivial;(conv=>whnf);refine CallG.pure _ (ladderWinnerC hN hx2194) ?_;(conv=>whnf);refine sr ?_;(conv=>whnf);refine nl ?_;(conv=>whnf);refine sr ?_;(conv=>whnf);refine nl ?_;(conv=>whnf);refine Both.mk ?_ trivial;(conv=>whnf);intro hd3177;(conv=>whnf);refine sr ?_;(conv=>whnf);refine nl ?_;(conv=>whnf);refine sr ?_;(conv=>whnf);refine nl ?_;(conv=>whnf);refine Both.mk ?_ trivial;(conv=>whnf);refine Side.mk ⟨rfl, rfl⟩ ?_;(conv=>whnf)
            refine Side.mk ⟨rfl, rfl, rfl⟩ (Need.mk (app_need hN hx2195 (by decide)) (Eqv.mk (List.map LadderSide.enc l1297) (app_map _ hx2195) ?_));(conv=>whnf);intro hd3178;(conv=>whnf);refine sr ?_;(conv=>whnf);refine nl ?_;(conv=>whnf);refine Both.mk ?_ trivial;(conv=>whnf);refine sr ?_;obtain ⟨l1298, hx2196, hx2183⟩ := obind hx2183;(conv=>whnf);refine DrawG.mk (.take 0 (.take 1 (.take 2 (.take 3 (.take 4 (.take 5 (.take 6 (.alt 7 [5, 4, 2, 1, 0] (.alt 8 [5, 4, 2, 1, 0] (.alt 9 [5, 4, 2, 1] (.alt 10 [] .done .nil) .nil) .nil) .nil)))))))) (by kernel_rfl) ?_;(conv=>whnf);refine sr ?_;(conv=>whnf);refine Side.mk rfl ⟨_, idx_0 hx2186, idx_map _ hx2186, ?_⟩;(conv=>whnf);refine Side.mk rfl ⟨_, idx_0 hx2190, idx_map _ hx2190, ?_⟩;(conv=>whnf);refine Both.mk ?_ trivial;(conv=>whnf);refine Side.mk rfl ⟨_, idx_0 hx2190, idx_map _ hx2190, ?_⟩;(conv=>whnf);refine nl ?_;(conv=>whnf);refine nl ?_
            (conv=>whnf);refine Side.mk rfl ⟨_, idx_0 hx2186, idx_map _ hx2186, ?_⟩;(conv=>whnf);refine nl ?_;(conv=>whnf);refine nl ?_;(conv=>whnf);refine sr ?_;(conv=>whnf);refine nl ?_;(conv=>whnf);refine Both.mk ?_ trivial;(conv=>whnf);intro hd3181;(conv=>whnf);refine Side.mk rfl ⟨_, idx_0 hx2190, idx_map _ hx2190, ?_⟩;(conv=>whnf);refine nl ?_;(conv=>whnf);refine nl ?_;(conv=>whnf);refine Side.mk rfl ⟨_, idx_0 hx2186, idx_map _ hx2186, ?_⟩;(conv=>whnf);refine nl ?_;(conv=>whnf);refine nl ?_;(conv=>whnf);refine sr ?_;(conv=>whnf);refine nl ?_;(conv=>whnf);refine Both.mk ?_ trivial;(conv=>whnf);refine Side.mk ⟨rfl, rfl⟩ ?_;(conv=>whnf);refine Side.mk ⟨rfl, rfl, rfl⟩ (Need.mk (app_need hN hx2196 (by decide)) (Eqv.mk (List.map LadderPair.enc l1298) (app_map _ hx2196) ?_));(conv=>whnf);intro hd3182;(conv=>whnf);refine Side.mk rfl ⟨_, idx_0 hx2190, idx_map _ hx2190, ?_⟩;(conv=>whnf)
            refine nl ?_;(conv=>whnf);refine nl ?_;(conv=>whnf);refine Side.mk rfl ⟨_, idx_0 hx2186, idx_map _ hx2186, ?_⟩;(conv=>whnf);refine nl ?_;(conv=>whnf);refine nl ?_;(conv=>whnf);refine Both.mk ?_ trivial;(conv=>whnf);refine sr ?_;cases hx2183;(conv=>whnf);refine ⟨(hd3182, hd3178), trivial, Sub.eq rfl ?_ ?_⟩
            ·(repeat ((conv=>whnf);refine nr ?_));exact trivial
            ·(conv=>whnf);refine no ?_;(conv=>whnf);refine no ?_;(conv=>whnf);refine no ?_;(conv=>whnf);refine no ?_;(conv=>whnf);refine no ?_;(conv=>whnf);refine no ?_;(conv=>whnf);refine no ?_;exact trivial
         ·rintro ⟨hd3161, hd3162⟩ _;(conv=>whnf);refine ⟨(n16, (w64 (sides48 + rb24), l1291, l1292), hd3161, hd3162), hl16, Sub.eq rfl ?_ ?_, Nat.lt_succ_self _⟩
          ·(repeat ((conv=>whnf);refine nr ?_));exact trivial
          ·(conv=>whnf);refine no ?_;(conv=>whnf);refine no ?_;(conv=>whnf);refine no ?_;(conv=>whnf);refine no ?_;(conv=>whnf);refine no ?_;(conv=>whnf);refine no ?_;(conv=>whnf);refine no ?_;exact trivial
        ·replace hl16 := ite_f hc399 hl16;(conv=>whnf);refine Side.mk ⟨rfl, rfl⟩ ?_;cases hl16;(conv=>whnf);refine ⟨(hd3097, hd3098), trivial, Sub.eq rfl ?_ ?_⟩
         ·(repeat ((conv=>whnf);refine nr ?_));exact trivial
         ·(conv=>whnf);refine no ?_;(conv=>whnf);refine no ?_;(conv=>whnf);refine no ?_;(conv=>whnf);refine no ?_;(conv=>whnf);refine no ?_;exact trivial
      ·rintro ⟨hd2921, hd2922⟩ _;(conv=>whnf);refine sr ?_;(conv=>whnf);refine ⟨(n14, (l1194, l1193), hd2922, hd2921), h, Sub.ren [(28, 63)] rfl rfl ?_ ?_, Nat.lt_succ_self _⟩
       ·(repeat ((conv=>whnf);refine nr ?_));exact trivial
       ·(conv=>whnf);refine no ?_;(conv=>whnf);refine no ?_;(conv=>whnf);refine no ?_;(conv=>whnf);refine no ?_;exact trivial
   ·rintro hd1608 _;(conv=>whnf);refine sr ?_;(conv=>whnf);refine sr ?_;(conv=>whnf);refine sr ?_;(conv=>whnf);refine sr ?_;(conv=>whnf);cases h;exact rfl
theorem ladderCupTreeC {N : Nat} (hN : N ≤ 1073741824) {c1 : LadderCup} {r : (List LadderPair)} (h : ladderCupTree N c1 = some r) :
    ACalls Try.prog 64 [.d (.agg [.int .u8 c1.fForm, I c1.fPlayers, I c1.fGames, .list 3 (List.map LadderResult.enc c1.fResults)])] [] fun e os => e = .ret (.d (.list 4 (List.map LadderPair.enc r))) ∧ os = [] := by
  refine acalls_f (fresh := false) tt_ok dr_ok ⟨[1], [], [], [], [], 0, []⟩ Try.func64 rfl Try.call64 rfl ?_
  unfold ladderCupTree at h
  (conv=>whnf);refine Br.mk (fun hc2 => ?_) (fun hc2 => ?_)
  ·replace h := ite_t hc2 h;obtain ⟨r4, hx4, h⟩ := obind h;(conv=>whnf);refine CallG.pure _ (ladderCupLadderC hN hx4) ?_;(conv=>whnf);cases h;exact rfl
  ·replace h := ite_f hc2 h;obtain ⟨r6, hx6, h⟩ := obind h;(conv=>whnf);refine CallG.pure _ (ladderCupBracketC hN hx6) ?_;(conv=>whnf);cases h;exact rfl
theorem ladderSidesC {N : Nat} (hN : N ≤ 1073741824)  {r : Unit} (h : ladderSides N = some r) :
    ACalls Try.prog 70 [] [] fun e os => e = .ret (.d (.agg [.fn (.func 87) [] [], .fn (.func 88) [] []])) ∧ os = [] := by
  refine acalls_f (fresh := false) tt_ok dr_ok ⟨[], [], [], [], [], 0, []⟩ Try.func70 rfl Try.call70 rfl ?_
  unfold ladderSides at h
  (conv=>whnf);intro b2;(conv=>whnf);refine sr ?_;(conv=>whnf);refine sr ?_;(conv=>whnf)
  all_goals cases h
  all_goals exact rfl
theorem ladderPairFirstC {N : Nat} (hN : N ≤ 1073741824) {p1 : LadderPair} {r : LadderSide} (h : ladderPairFirst N p1 = some r) :
    ACalls Try.prog 87 [.d (.agg [I p1.fFirst.fPlayer, I p1.fFirst.fMatch, I p1.fSecond.fPlayer, I p1.fSecond.fMatch])] [] fun e os => e = .ret (.d (.agg [I r.fPlayer, I r.fMatch])) ∧ os = [] := by
  refine acalls_f (fresh := false) tt_ok dr_ok ⟨[1], [], [], [], [], 0, []⟩ Try.func87 rfl Try.call87 rfl ?_
  unfold ladderPairFirst at h
  (conv=>whnf);intro b2;(conv=>whnf);refine sr ?_;(conv=>whnf);refine sr ?_;(conv=>whnf);cases h;exact rfl
theorem ladderSumC {N : Nat} (hN : N ≤ 1073741824) {l1 : List Int} {r : Int} (h : ladderSum N l1 = some r) :
    ACalls Try.prog 80 [.d (.list 1 (List.map I l1))] [] fun e os => e = .ret (.d (I r)) ∧ os = [] := by
  refine acalls_f (fresh := false) tt_ok dr_ok ⟨[], [], [], [], [1001], 0, []⟩ Try.func80 rfl Try.call80 rfl ?_
  unfold ladderSum at h
  obtain ⟨n6, hx13, h⟩ := obind h;(conv=>whnf);refine SeqG.mk Unit (fun y => [(2, .d (I n6))]) (fun y => []) (fun _ => True) ?_ ?_
  ·(conv=>whnf);refine LnA.mk _ (List.length_map _) ?_;(conv=>whnf);refine LoopG.mk (Nat × (Int × Int × Int)) (fun y => [(2, .d (I y.2.1)), (5, .d (.list 1 (List.map I l1))), (6, .d (I y.2.2.1)), (7, .d (I y.2.2.2))]) (fun y => []) (fun y => loopN (fun rr x => ladderSum_b1 N l1 rr x.1 x.2.1 x.2.2) y.1 y.2 = some n6) (fun y => y.1) (N, (0, (l1.length : Int), 0)) hx13 (Sub.eq rfl ?_ ?_) ?_
   ·(repeat ((conv=>whnf);refine nr ?_));exact trivial
   ·exact trivial
   ·rintro ⟨n11, ⟨n10, v17, v18⟩⟩ hl2;obtain ⟨n11, rfl, hl2⟩ := loopN_some hl2;replace hl2 : ladderSum_b1 N l1 (loopN (fun rr x => ladderSum_b1 N l1 rr x.1 x.2.1 x.2.2) n11) n10 v17 v18 = some n6 := hl2;rw [ladderSum_b1] at hl2;(conv=>whnf);refine Br.mk (fun hc12 => ?_) (fun hc12 => ?_)
    ·replace hl2 := ite_t hc12 hl2;obtain ⟨x24, hx25, hl2⟩ := obind hl2;(conv=>whnf);refine Side.mk rfl ⟨_, idx_0 hx25, idx_map _ hx25, ?_⟩;(conv=>whnf);refine ⟨(n11, (w64 (n10 + x24), v17, w64 (v18 + 1))), hl2, Sub.eq rfl ?_ ?_, Nat.lt_succ_self _⟩
     ·(repeat ((conv=>whnf);refine nr ?_));exact trivial
     ·exact trivial
    ·replace hl2 := ite_f hc12 hl2;cases hl2;(conv=>whnf);refine ⟨(), trivial, Sub.eq rfl ?_ ?_⟩
     ·(repeat ((conv=>whnf);refine nr ?_));exact trivial
     ·exact trivial
  ·rintro _ _;(conv=>whnf);cases h;exact rfl
theorem ladderPairSecondC {N : Nat} (hN : N ≤ 1073741824) {p1 : LadderPair} {r : LadderSide} (h : ladderPairSecond N p1 = some r) :
    ACalls Try.prog 88 [.d (.agg [I p1.fFirst.fPlayer, I p1.fFirst.fMatch, I p1.fSecond.fPlayer, I p1.fSecond.fMatch])] [] fun e os => e = .ret (.d (.agg [I r.fPlayer, I r.fMatch])) ∧ os = [] := by
  refine acalls_f (fresh := false) tt_ok dr_ok ⟨[1], [], [], [], [], 0, []⟩ Try.func88 rfl Try.call88 rfl ?_
  unfold ladderPairSecond at h
  (conv=>whnf);intro b2;(conv=>whnf);refine sr ?_;(conv=>whnf);refine sr ?_;(conv=>whnf);cases h;exact rfl
theorem slicesIndexC {N : Nat} (hN : N ≤ 1073741824) {s1 : List Int} {v1 : Int} {r : Int} (h : slicesIndex N s1 v1 = some r) :
    ACalls Try.prog 89 [.d (.list 1 (List.map I s1)), .d (I v1)] [] fun e os => e = .ret (.d (I r)) ∧ os = [] := by
  refine acalls_f (fresh := false) tt_ok dr_ok ⟨[], [], [], [], [1001], 0, []⟩ Try.func89 rfl Try.call89 rfl ?_
  unfold slicesIndex at h
  (conv=>whnf);refine SeqG.mk Unit (fun y => []) (fun y => []) (fun y => slicesIndex_k1 N = some r) ?_ ?_
  ·(conv=>whnf);refine LnA.mk _ (List.length_map _) ?_;(conv=>whnf);refine LoopG.mk (Nat × (Int × Int)) (fun y => [(0, .d (.list 1 (List.map I s1))), (1, .d (I v1)), (7, .d (I y.2.1)), (8, .d (I y.2.2))]) (fun y => []) (fun y => loopN (fun rr x => slicesIndex_b2 N s1 v1 rr x.1 x.2) y.1 y.2 = some r) (fun y => y.1) (N, ((s1.length : Int), 0)) h (Sub.eq rfl ?_ ?_) ?_
   ·(repeat ((conv=>whnf);refine nr ?_));exact trivial
   ·exact trivial
   ·rintro ⟨n2, ⟨v18, v19⟩⟩ hl2;obtain ⟨n2, rfl, hl2⟩ := loopN_some hl2;replace hl2 : slicesIndex_b2 N s1 v1 (loopN (fun rr x => slicesIndex_b2 N s1 v1 rr x.1 x.2) n2) v18 v19 = some r := hl2;rw [slicesIndex_b2] at hl2;(conv=>whnf);refine Br.mk (fun hc22 => ?_) (fun hc22 => ?_)
    ·replace hl2 := ite_t hc22 hl2;obtain ⟨x24, hx24, hl2⟩ := obind hl2;(conv=>whnf);refine Side.mk rfl ⟨_, idx_0 hx24, idx_map _ hx24, ?_⟩;(conv=>whnf);refine Br.mk (fun hc24 => ?_) (fun hc24 => ?_)
     ·replace hl2 := ite_t hc24 hl2;(conv=>whnf);cases hl2;exact rfl
     ·replace hl2 := ite_f hc24 hl2;(conv=>whnf);refine ⟨(n2, (v18, w64 (v19 + 1))), hl2, Sub.eq rfl ?_ ?_, Nat.lt_succ_self _⟩
      ·(repeat ((conv=>whnf);refine nr ?_));exact trivial
      ·exact trivial
    ·replace hl2 := ite_f hc22 hl2;(conv=>whnf);refine ⟨(), hl2, Sub.eq rfl ?_ ?_⟩
     ·(repeat ((conv=>whnf);refine nr ?_));exact trivial
     ·exact trivial
  ·clear h;rintro _ h;unfold slicesIndex_k1 at h;(conv=>whnf);cases h;exact rfl
theorem slicesContainsC {N : Nat} (hN : N ≤ 1073741824) {s1 : List Int} {v1 : Int} {r : Bool} (h : slicesContains N s1 v1 = some r) :
    ACalls Try.prog 72 [.d (.list 1 (List.map I s1)), .d (I v1)] [] fun e os => e = .ret (.d (.bool r)) ∧ os = [] := by
  refine acalls_f (fresh := false) tt_ok dr_ok ⟨[], [], [], [], [], 0, []⟩ Try.func72 rfl Try.call72 rfl ?_
  unfold slicesContains at h
  obtain ⟨r2, hx2, h⟩ := obind h;(conv=>whnf);refine CallG.pure _ (slicesIndexC hN hx2) ?_;(conv=>whnf);cases h;exact rfl
theorem ladderDrawScoreXXXXXC {N : Nat} (hN : N ≤ 1073741824) {match1 : Int} {games1 : List Int} {c1 : Int} {c2 : Int} {c3 : Int} {c4 : List LadderResult} {c5 : List LadderPair} {m1 : List (Int × LadderResult)} {l1 : List (Ar2 Int)} {bo1 : Nat} {bo2 : Nat} {ho1 : Value} {r : (Ar2 Int)} (h : ladderDrawScoreXXXXX N match1 games1 c1 c2 c3 c4 c5 m1 l1 = some r) :
    ACalls Try.prog 84 [.ptr 265040 bo1 0, .d (I match1), .d (.list 1 (List.map I games1))] [(265040, .cells bo1 [.d (.int .u8 c1), .d (I c2), .d (I c3), .d (.list 3 (List.map LadderResult.enc c4)), .d (.list 4 (List.map LadderPair.enc c5)), .mp 265038 bo2, .sl 1400055 ho1]), (265038, .map bo2 (List.map (fun p => (I p.1, .agg [I p.2.fMatch, .list 1 (List.map I p.2.fGames), .bool p.2.fProtested])) m1)), (1400055, .arr ho1 70 2 false (List.map (fun x => .agg [I x.a0, I x.a1]) l1))] fun ae os => ∃ y : Unit, True ∧ ae = .ret (.d (.agg [I r.a0, I r.a1])) ∧ os = [(265040, .cells bo1 [.d (.int .u8 c1), .d (I c2), .d (I c3), .d (.list 3 (List.map LadderResult.enc c4)), .d (.list 4 (List.map LadderPair.enc c5)), .mp 265038 bo2, .sl 1400055 ho1]), (265038, .map bo2 (List.map (fun p => (I p.1, .agg [I p.2.fMatch, .list 1 (List.map I p.2.fGames), .bool p.2.fProtested])) m1)), (1400055, .arr ho1 70 2 false (List.map (fun x => .agg [I x.a0, I x.a1]) l1))] := by
  refine acalls_own (fresh := false) tt_ok dr_ok ⟨[], [], [], [], [1003, 1006], 1410000, []⟩ Try.func84 rfl Try.call84 rfl ?_
  unfold ladderDrawScoreXXXXX at h
  (conv=>whnf);intro b2;(conv=>whnf);refine sr ?_;obtain ⟨x52, hx90, h⟩ := obind h;(conv=>whnf);refine Side.mk ⟨rfl, rfl⟩ (Need.mk (idx_need _ hx90) ?_);(conv=>whnf);refine Side.mk ⟨rfl, rfl⟩ ⟨_, Int.natCast_nonneg _, idx_el _ hx90, ?_⟩;(conv=>whnf);refine LoopG.unr 3 ?_;obtain ⟨c43, hx112, h⟩ := obind h;(conv=>whnf)
  refine SeqG.mk Unit (fun y => [(2, .d (.list 1 (List.map I games1))), (6, .ptr 1410006 b2 0), (17, .d (.agg [I x52.a0, I x52.a1])), (18, .i .i64 0)]) (fun y => [(1410006, .cells b2 [.d (I c43.a0), .d (I c43.a1)]), (265040, .cells bo1 [.d (.int .u8 c1), .d (I c2), .d (I c3), .d (.list 3 (List.map LadderResult.enc c4)), .d (.list 4 (List.map LadderPair.enc c5)), .mp 265038 bo2, .sl 1400055 ho1]), (265038, .map bo2 (List.map (fun p => (I p.1, .agg [I p.2.fMatch, .list 1 (List.map I p.2.fGames), .bool p.2.fProtested])) m1)), (1400055, .arr ho1 70 2 false (List.map (fun x => .agg [I x.a0, I x.a1]) l1))]) (fun _ => True) ?_ ?_
  ·(conv=>whnf);refine IxG.mk 0 rfl (by decide) ?_;(conv=>whnf);refine LnA.mk _ (List.length_map _) ?_;(conv=>whnf)
   refine LoopG.mk (Nat × (Int × Int × (Ar2 Int))) (fun y => [(2, .d (.list 1 (List.map I games1))), (6, .ptr 1410006 b2 0), (7, .i .i64 0), (8, .d (I x52.a0)), (17, .d (.agg [I x52.a0, I x52.a1])), (18, .i .i64 0), (22, .d (.list 1 (List.map I games1))), (23, .d (I y.2.1)), (24, .d (I y.2.2.1))]) (fun y => [(1410006, .cells b2 [.d (I y.2.2.2.a0), .d (I y.2.2.2.a1)]), (265040, .cells bo1 [.d (.int .u8 c1), .d (I c2), .d (I c3), .d (.list 3 (List.map LadderResult.enc c4)), .d (.list 4 (List.map LadderPair.enc c5)), .mp 265038 bo2, .sl 1400055 ho1]), (265038, .map bo2 (List.map (fun p => (I p.1, .agg [I p.2.fMatch, .list 1 (List.map I p.2.fGames), .bool p.2.fProtested])) m1)), (1400055, .arr ho1 70 2 false (List.map (fun x => .agg [I x.a0, I x.a1]) l1))]) (fun y => loopN (fun rr x => ladderDrawScoreXXXXX_b1 N games1 x52 rr x.1 x.2.1 x.2.2) y.1 y.2 = some c43) (fun y => y.1) (N, ((games1.length : Int), 0, (Ar2.mk 0 0))) hx112 (Sub.eq rfl ?_ ?_) ?_
   ·(repeat ((conv=>whnf);refine nr ?_));exact trivial
   ·(conv=>whnf);refine no ?_;(conv=>whnf);refine no ?_;(conv=>whnf);refine no ?_;(conv=>whnf);refine no ?_;exact trivial
   ·rintro ⟨n6, ⟨v53, v54, c49⟩⟩ hl6;obtain ⟨n6, rfl, hl6⟩ := loopN_some hl6;replace hl6 : ladderDrawScoreXXXXX_b1 N games1 x52 (loopN (fun rr x => ladderDrawScoreXXXXX_b1 N games1 x52 rr x.1 x.2.1 x.2.2) n6) v53 v54 c49 = some c43 := hl6;rw [ladderDrawScoreXXXXX_b1] at hl6;(conv=>whnf);refine Br.mk (fun hc70 => ?_) (fun hc70 => ?_)
    ·replace hl6 := ite_t hc70 hl6;obtain ⟨c50, hx130, hl6⟩ := obind hl6;(conv=>whnf);refine SeqG.mk Unit (fun y => [(2, .d (.list 1 (List.map I games1))), (6, .ptr 1410006 b2 0), (7, .i .i64 0), (8, .d (I x52.a0)), (17, .d (.agg [I x52.a0, I x52.a1])), (18, .i .i64 0), (22, .d (.list 1 (List.map I games1))), (23, .d (I v53)), (24, .d (I v54))]) (fun y => [(1410006, .cells b2 [.d (I c50.a0), .d (I c50.a1)]), (265040, .cells bo1 [.d (.int .u8 c1), .d (I c2), .d (I c3), .d (.list 3 (List.map LadderResult.enc c4)), .d (.list 4 (List.map LadderPair.enc c5)), .mp 265038 bo2, .sl 1400055 ho1]), (265038, .map bo2 (List.map (fun p => (I p.1, .agg [I p.2.fMatch, .list 1 (List.map I p.2.fGames), .bool p.2.fProtested])) m1)), (1400055, .arr ho1 70 2 false (List.map (fun x => .agg [I x.a0, I x.a1]) l1))]) (fun _ => True) ?_ ?_
     ·obtain ⟨x76, hx132, hx130⟩ := obind hx130;(conv=>whnf);refine Side.mk rfl ⟨_, idx_0 hx132, idx_map _ hx132, ?_⟩;(conv=>whnf);refine Br.mk (fun hc72 => ?_) (fun hc72 => ?_)
      ·replace hx130 := ite_t hc72 hx130;(conv=>whnf);refine IxG.mk 0 rfl (by decide) ?_;(conv=>whnf);refine sr ?_;(conv=>whnf);intro hd36;obtain ⟨r36, hx133, hx130⟩ := obind hx130;(conv=>whnf);refine sr ?_;(conv=>whnf);refine CallG.pure _ (ladderSumC hN hx133) ?_;(conv=>whnf);refine IxG.mk 0 rfl (by decide) ?_;(conv=>whnf);refine sr ?_;cases hx130;(conv=>whnf);refine ⟨(), trivial, Sub.eq rfl ?_ ?_⟩
       ·(repeat ((conv=>whnf);refine nr ?_));exact trivial
       ·(conv=>whnf);refine no ?_;(conv=>whnf);refine no ?_;(conv=>whnf);refine no ?_;(conv=>whnf);refine no ?_;exact trivial
      ·replace hx130 := ite_f hc72 hx130;cases hx130;(conv=>whnf);refine ⟨(), trivial, Sub.eq rfl ?_ ?_⟩
       ·(repeat ((conv=>whnf);refine nr ?_));exact trivial
       ·(conv=>whnf);refine no ?_;(conv=>whnf);refine no ?_;(conv=>whnf);refine no ?_;(conv=>whnf);refine no ?_;exact trivial
     ·rintro _ _;(conv=>whnf);refine ⟨(n6, (v53, w64 (v54 + 1), c50)), hl6, Sub.eq rfl ?_ ?_, Nat.lt_succ_self _⟩
      ·(repeat ((conv=>whnf);refine nr ?_));exact trivial
      ·(conv=>whnf);refine no ?_;(conv=>whnf);refine no ?_;(conv=>whnf);refine no ?_;(conv=>whnf);refine no ?_;exact trivial
    ·replace hl6 := ite_f hc70 hl6;cases hl6;(conv=>whnf);refine ⟨(), trivial, Sub.eq rfl ?_ ?_⟩
     ·(repeat ((conv=>whnf);refine nr ?_));exact trivial
     ·(conv=>whnf);refine no ?_;(conv=>whnf);refine no ?_;(conv=>whnf);refine no ?_;(conv=>whnf);refine no ?_;exact trivial
  ·rintro _ _;obtain ⟨c58, hx155, h⟩ := obind h;(conv=>whnf);refine SeqG.mk Unit (fun y => [(2, .d (.list 1 (List.map I games1))), (6, .ptr 1410006 b2 0), (17, .d (.agg [I x52.a0, I x52.a1])), (18, .i .i64 1)]) (fun y => [(1410006, .cells b2 [.d (I c58.a0), .d (I c58.a1)]), (265040, .cells bo1 [.d (.int .u8 c1), .d (I c2), .d (I c3), .d (.list 3 (List.map LadderResult.enc c4)), .d (.list 4 (List.map LadderPair.enc c5)), .mp 265038 bo2, .sl 1400055 ho1]), (265038, .map bo2 (List.map (fun p => (I p.1, .agg [I p.2.fMatch, .list 1 (List.map I p.2.fGames), .bool p.2.fProtested])) m1)), (1400055, .arr ho1 70 2 false (List.map (fun x => .agg [I x.a0, I x.a1]) l1))]) (fun _ => True) ?_ ?_
   ·(conv=>whnf);refine IxG.mk 1 rfl (by decide) ?_;(conv=>whnf);refine LnA.mk _ (List.length_map _) ?_;(conv=>whnf)
    refine LoopG.mk (Nat × (Int × Int × (Ar2 Int))) (fun y => [(2, .d (.list 1 (List.map I games1))), (6, .ptr 1410006 b2 0), (7, .i .i64 1), (8, .d (I x52.a1)), (17, .d (.agg [I x52.a0, I x52.a1])), (18, .i .i64 1), (22, .d (.list 1 (List.map I games1))), (23, .d (I y.2.1)), (24, .d (I y.2.2.1))]) (fun y => [(1410006, .cells b2 [.d (I y.2.2.2.a0), .d (I y.2.2.2.a1)]), (265040, .cells bo1 [.d (.int .u8 c1), .d (I c2), .d (I c3), .d (.list 3 (List.map LadderResult.enc c4)), .d (.list 4 (List.map LadderPair.enc c5)), .mp 265038 bo2, .sl 1400055 ho1]), (265038, .map bo2 (List.map (fun p => (I p.1, .agg [I p.2.fMatch, .list 1 (List.map I p.2.fGames), .bool p.2.fProtested])) m1)), (1400055, .arr ho1 70 2 false (List.map (fun x => .agg [I x.a0, I x.a1]) l1))]) (fun y => loopN (fun rr x => ladderDrawScoreXXXXX_b2 N games1 x52 rr x.1 x.2.1 x.2.2) y.1 y.2 = some c58) (fun y => y.1) (N, ((games1.length : Int), 0, c43)) hx155 (Sub.eq rfl ?_ ?_) ?_
    ·(repeat ((conv=>whnf);refine nr ?_));exact trivial
    ·(conv=>whnf);refine no ?_;(conv=>whnf);refine no ?_;(conv=>whnf);refine no ?_;(conv=>whnf);refine no ?_;exact trivial
    ·rintro ⟨n8, ⟨v71, v72, c64⟩⟩ hl8;obtain ⟨n8, rfl, hl8⟩ := loopN_some hl8;replace hl8 : ladderDrawScoreXXXXX_b2 N games1 x52 (loopN (fun rr x => ladderDrawScoreXXXXX_b2 N games1 x52 rr x.1 x.2.1 x.2.2) n8) v71 v72 c64 = some c58 := hl8;rw [ladderDrawScoreXXXXX_b2] at hl8;(conv=>whnf);refine Br.mk (fun hc94 => ?_) (fun hc94 => ?_)
     ·replace hl8 := ite_t hc94 hl8;obtain ⟨c65, hx173, hl8⟩ := obind hl8;(conv=>whnf);refine SeqG.mk Unit (fun y => [(2, .d (.list 1 (List.map I games1))), (6, .ptr 1410006 b2 0), (7, .i .i64 1), (8, .d (I x52.a1)), (17, .d (.agg [I x52.a0, I x52.a1])), (18, .i .i64 1), (22, .d (.list 1 (List.map I games1))), (23, .d (I v71)), (24, .d (I v72))]) (fun y => [(1410006, .cells b2 [.d (I c65.a0), .d (I c65.a1)]), (265040, .cells bo1 [.d (.int .u8 c1), .d (I c2), .d (I c3), .d (.list 3 (List.map LadderResult.enc c4)), .d (.list 4 (List.map LadderPair.enc c5)), .mp 265038 bo2, .sl 1400055 ho1]), (265038, .map bo2 (List.map (fun p => (I p.1, .agg [I p.2.fMatch, .list 1 (List.map I p.2.fGames), .bool p.2.fProtested])) m1)), (1400055, .arr ho1 70 2 false (List.map (fun x => .agg [I x.a0, I x.a1]) l1))]) (fun _ => True) ?_ ?_
      ·obtain ⟨x100, hx175, hx173⟩ := obind hx173;(conv=>whnf);refine Side.mk rfl ⟨_, idx_0 hx175, idx_map _ hx175, ?_⟩;(conv=>whnf);refine Br.mk (fun hc96 => ?_) (fun hc96 => ?_)
       ·replace hx173 := ite_t hc96 hx173;(conv=>whnf);refine IxG.mk 1 rfl (by decide) ?_;(conv=>whnf);refine sr ?_;(conv=>whnf);intro hd48;obtain ⟨r48, hx176, hx173⟩ := obind hx173;(conv=>whnf);refine sr ?_;(conv=>whnf);refine CallG.pure _ (ladderSumC hN hx176) ?_;(conv=>whnf);refine IxG.mk 1 rfl (by decide) ?_;(conv=>whnf);refine sr ?_;cases hx173;(conv=>whnf);refine ⟨(), trivial, Sub.eq rfl ?_ ?_⟩
        ·(repeat ((conv=>whnf);refine nr ?_));exact trivial
        ·(conv=>whnf);refine no ?_;(conv=>whnf);refine no ?_;(conv=>whnf);refine no ?_;(conv=>whnf);refine no ?_;exact trivial
       ·replace hx173 := ite_f hc96 hx173;cases hx173;(conv=>whnf);refine ⟨(), trivial, Sub.eq rfl ?_ ?_⟩
        ·(repeat ((conv=>whnf);refine nr ?_));exact trivial
        ·(conv=>whnf);refine no ?_;(conv=>whnf);refine no ?_;(conv=>whnf);refine no ?_;(conv=>whnf);refine no ?_;exact trivial
      ·rintro _ _;(conv=>whnf);refine ⟨(n8, (v71, w64 (v72 + 1), c65)), hl8, Sub.eq rfl ?_ ?_, Nat.lt_succ_self _⟩
       ·(repeat ((conv=>whnf);refine nr ?_));exact trivial
       ·(conv=>whnf);refine no ?_;(conv=>whnf);refine no ?_;(conv=>whnf);refine no ?_;(conv=>whnf);refine no ?_;exact trivial
     ·replace hl8 := ite_f hc94 hl8;cases hl8;(conv=>whnf);refine ⟨(), trivial, Sub.eq rfl ?_ ?_⟩
      ·(repeat ((conv=>whnf);refine nr ?_));exact trivial
      ·(conv=>whnf);refine no ?_;(conv=>whnf);refine no ?_;(conv=>whnf);refine no ?_;(conv=>whnf);refine no ?_;exact trivial
   ·rintro _ _;(conv=>whnf);refine sr ?_;(conv=>whnf);refine sr ?_;(conv=>whnf);refine sr ?_;(conv=>whnf);cases h;exact ⟨(), trivial, rfl, inO_at (ren := id) (And.intro rfl (And.intro rfl (And.intro rfl trivial)))⟩
theorem ladderDrawDecidedXXXXXC {N : Nat} (hN : N ≤ 1073741824) {match1 : Int} {games1 : List Int} {c1 : Int} {c2 : Int} {c3 : Int} {c4 : List LadderResult} {c5 : List LadderPair} {m1 : List (Int × LadderResult)} {l1 : List (Ar2 Int)} {bo1 : Nat} {bo2 : Nat} {ho1 : Value} {r : Int} (h : ladderDrawDecidedXXXXX N match1 games1 c1 c2 c3 c4 c5 m1 l1 = some r) :
    ACalls Try.prog 81 [.ptr 265040 bo1 0, .d (I match1), .d (.list 1 (List.map I games1))] [(265040, .cells bo1 [.d (.int .u8 c1), .d (I c2), .d (I c3), .d (.list 3 (List.map LadderResult.enc c4)), .d (.list 4 (List.map LadderPair.enc c5)), .mp 265038 bo2, .sl 1400055 ho1]), (265038, .map bo2 (List.map (fun p => (I p.1, .agg [I p.2.fMatch, .list 1 (List.map I p.2.fGames), .bool p.2.fProtested])) m1)), (1400055, .arr ho1 70 2 false (List.map (fun x => .agg [I x.a0, I x.a1]) l1))] fun ae os => ∃ y : Unit, True ∧ ae = .ret (.d (I r)) ∧ os = [(265040, .cells bo1 [.d (.int .u8 c1), .d (I c2), .d (I c3), .d (.list 3 (List.map LadderResult.enc c4)), .d (.list 4 (List.map LadderPair.enc c5)), .mp 265038 bo2, .sl 1400055 ho1]), (265038, .map bo2 (List.map (fun p => (I p.1, .agg [I p.2.fMatch, .list 1 (List.map I p.2.fGames), .bool p.2.fProtested])) m1)), (1400055, .arr ho1 70 2 false (List.map (fun x => .agg [I x.a0, I x.a1]) l1))] := by
  refine acalls_own (fresh := false) tt_ok dr_ok ⟨[], [], [], [], [], 1410000, []⟩ Try.func81 rfl Try.call81 rfl ?_
  unfold ladderDrawDecidedXXXXX at h
  obtain ⟨r4, hx12, h⟩ := obind h;(conv=>whnf);refine CallG.own (ladderDrawScoreXXXXXC (bo1 := bo1) (bo2 := bo2) (ho1 := ho1) hN hx12) id [] _ (fun y => [(265040, .cells bo1 [.d (.int .u8 c1), .d (I c2), .d (I c3), .d (.list 3 (List.map LadderResult.enc c4)), .d (.list 4 (List.map LadderPair.enc c5)), .mp 265038 bo2, .sl 1400055 ho1]), (265038, .map bo2 (List.map (fun p => (I p.1, .agg [I p.2.fMatch, .list 1 (List.map I p.2.fGames), .bool p.2.fProtested])) m1)), (1400055, .arr ho1 70 2 false (List.map (fun x => .agg [I x.a0, I x.a1]) l1))]) (all2_le_refl _) (And.intro rfl (And.intro rfl (And.intro rfl trivial))) rfl (And.intro rfl (And.intro rfl (And.intro rfl trivial))) trivial (fun _ => AV.le_refl _) (fun _ => rfl) ?_;rintro _ _;(conv=>whnf);refine LoopG.unr 3 ?_;(conv=>whnf);refine IxG.mk 0 rfl (by decide) ?_;(conv=>whnf);refine sr ?_;(conv=>whnf)
  refine Br.mk (fun hc6 => ?_) (fun hc6 => ?_)
  ·replace h := ite_t hc6 h;(conv=>whnf);refine sr ?_;obtain ⟨x12, hx16, h⟩ := obind h;(conv=>whnf);refine Side.mk ⟨rfl, rfl⟩ (Need.mk (idx_need _ hx16) ?_);(conv=>whnf);refine IxG.mk 0 rfl (by decide) ?_;(conv=>whnf);refine Side.mk ⟨rfl, rfl⟩ ⟨_, Int.natCast_nonneg _, idx_el _ hx16, ?_⟩;(conv=>whnf);cases h;exact ⟨(), trivial, rfl, inO_at (ren := id) (And.intro rfl (And.intro rfl (And.intro rfl trivial)))⟩
  ·replace h := ite_f hc6 h;(conv=>whnf);refine IxG.mk 1 rfl (by decide) ?_;(conv=>whnf);refine sr ?_;(conv=>whnf);refine Br.mk (fun hc8 => ?_) (fun hc8 => ?_)
   ·replace h := ite_t hc8 h;(conv=>whnf);refine sr ?_;obtain ⟨x16, hx20, h⟩ := obind h;(conv=>whnf);refine Side.mk ⟨rfl, rfl⟩ (Need.mk (idx_need _ hx20) ?_);(conv=>whnf);refine IxG.mk 1 rfl (by decide) ?_;(conv=>whnf);refine Side.mk ⟨rfl, rfl⟩ ⟨_, Int.natCast_nonneg _, idx_el _ hx20, ?_⟩;(conv=>whnf);cases h;exact ⟨(), trivial, rfl, inO_at (ren := id) (And.intro rfl (And.intro rfl (And.intro rfl trivial)))⟩
   ·replace h := ite_f hc8 h;(conv=>whnf);cases h;exact ⟨(), trivial, rfl, inO_at (ren := id) (And.intro rfl (And.intro rfl (And.intro rfl trivial)))⟩
theorem ladderDrawLawfulXXXC {N : Nat} (hN : N ≤ 1073741824) {r1 : LadderResult} {c1 : Int} {c2 : Int} {c3 : Int} {c4 : List LadderResult} {c5 : List LadderPair} {m1 : List (Int × LadderResult)} {l1 : List (Ar2 Int)} {bo1 : Nat} {bo2 : Nat} {ho1 : Value} {r : Bool} (h : ladderDrawLawfulXXX N r1 c1 c2 c3 c4 c5 m1 l1 = some r) :
    ACalls Try.prog 93 [.ptr 265040 bo1 0, .d (.agg [I r1.fMatch, .list 1 (List.map I r1.fGames), .bool r1.fProtested])] [(265040, .cells bo1 [.d (.int .u8 c1), .d (I c2), .d (I c3), .d (.list 3 (List.map LadderResult.enc c4)), .d (.list 4 (List.map LadderPair.enc c5)), .mp 265038 bo2, .sl 1400055 ho1]), (265038, .map bo2 (List.map (fun p => (I p.1, .agg [I p.2.fMatch, .list 1 (List.map I p.2.fGames), .bool p.2.fProtested])) m1)), (1400055, .arr ho1 70 2 false (List.map (fun x => .agg [I x.a0, I x.a1]) l1))] fun ae os => ∃ y : Unit, True ∧ ae = .ret (.d (.bool r)) ∧ os = [(265040, .cells bo1 [.d (.int .u8 c1), .d (I c2), .d (I c3), .d (.list 3 (List.map LadderResult.enc c4)), .d (.list 4 (List.map LadderPair.enc c5)), .mp 265038 bo2, .sl 1400055 ho1]), (265038, .map bo2 (List.map (fun p => (I p.1, .agg [I p.2.fMatch, .list 1 (List.map I p.2.fGames), .bool p.2.fProtested])) m1)), (1400055, .arr ho1 70 2 false (List.map (fun x => .agg [I x.a0, I x.a1]) l1))] := by
  refine acalls_own (fresh := false) tt_ok dr_ok ⟨[3], [], [], [], [2, 8, 1005], 1410000, [5]⟩ Try.func93 rfl Try.call93 rfl ?_
  unfold ladderDrawLawfulXXX at h
  obtain ⟨x2, hx2, h⟩ := obind h;(conv=>whnf);refine DrawG.mk (.take 0 (.take 1 (.take 2 (.take 3 (.take 4 (.take 5 (.take 6 (.take 7 (.alt 8 [7, 6, 5, 4, 3, 2, 1, 0] (.alt 9 [] .done .nil) .nil))))))))) (by kernel_rfl) ?_;(conv=>whnf);refine sr ?_;(conv=>whnf);refine Side.mk ⟨rfl, rfl⟩ (Need.mk (idx_need _ hx2) ?_);(conv=>whnf);refine Side.mk ⟨rfl, rfl⟩ ⟨_, Int.natCast_nonneg _, idx_el _ hx2, ?_⟩;(conv=>whnf);refine Both.mk ?_ trivial;(conv=>whnf);intro b4;(conv=>whnf);refine Side.mk ⟨rfl, rfl⟩ ⟨_, Int.natCast_nonneg _, idx_el _ hx2, ?_⟩;(conv=>whnf);refine nl ?_;(conv=>whnf);refine Side.mk ⟨rfl, rfl⟩ (Need.mk (idx_need _ hx2) ?_);(conv=>whnf);refine nl ?_;(conv=>whnf);refine nl ?_;(conv=>whnf);refine nl ?_;(conv=>whnf);refine sr ?_;(conv=>whnf);refine nl ?_;(conv=>whnf);refine nl ?_;(conv=>whnf);refine nl ?_;(conv=>whnf);refine nl ?_;(conv=>whnf);refine Both.mk ?_ trivial;(conv=>whnf)
  refine sr ?_;(conv=>whnf);refine sr ?_;obtain ⟨v2, hx4, h⟩ := obind h;(conv=>whnf);refine SeqG.mk Unit (fun y => [(0, .ptr 265040 bo1 0), (3, .d (.ref (.agg [I r1.fMatch, .list 1 (List.map I r1.fGames), .bool r1.fProtested]))), (5, .d (.ref (.agg [I x2.a0, I x2.a1]))), (24, .d (.bool v2))]) (fun y => [(265040, .cells bo1 [.d (.int .u8 c1), .d (I c2), .d (I c3), .d (.list 3 (List.map LadderResult.enc c4)), .d (.list 4 (List.map LadderPair.enc c5)), .mp 265038 bo2, .sl 1400055 ho1]), (265038, .map bo2 (List.map (fun p => (I p.1, .agg [I p.2.fMatch, .list 1 (List.map I p.2.fGames), .bool p.2.fProtested])) m1)), (1400055, .arr ho1 70 2 false (List.map (fun x => .agg [I x.a0, I x.a1]) l1))]) (fun _ => True) ?_ ?_
  ·(conv=>whnf);refine IxG.mk 0 rfl (by decide) ?_;(conv=>whnf);refine Br.mk (fun hc5 => ?_) (fun hc5 => ?_)
   ·replace hx4 := ite_f hc5 hx4;(conv=>whnf);refine IxG.mk 1 rfl (by decide) ?_;cases hx4;(conv=>whnf);refine ⟨(), trivial, Sub.eq rfl ?_ ?_⟩
    ·(repeat ((conv=>whnf);refine nr ?_));exact trivial
    ·(conv=>whnf);refine no ?_;(conv=>whnf);refine no ?_;(conv=>whnf);refine no ?_;exact trivial
   ·replace hx4 := ite_t hc5 hx4;cases hx4;(conv=>whnf);refine ⟨(), trivial, Sub.eq rfl ?_ ?_⟩
    ·(repeat ((conv=>whnf);refine nr ?_));exact trivial
    ·(conv=>whnf);refine no ?_;(conv=>whnf);refine no ?_;(conv=>whnf);refine no ?_;exact trivial
  ·rintro _ _;(conv=>whnf);refine Br.mk (fun hc6 => ?_) (fun hc6 => ?_)
   ·replace h := ite_t hc6 h;(conv=>whnf);cases h;exact ⟨(), trivial, rfl, inO_at (ren := id) (And.intro rfl (And.intro rfl (And.intro rfl trivial)))⟩
   ·replace h := ite_f hc6 h;obtain ⟨fair1, hx59, h⟩ := obind h;(conv=>whnf);refine SeqG.mk Unit (fun y => [(6, .d (.bool fair1))]) (fun y => [(265040, .cells bo1 [.d (.int .u8 c1), .d (I c2), .d (I c3), .d (.list 3 (List.map LadderResult.enc c4)), .d (.list 4 (List.map LadderPair.enc c5)), .mp 265038 bo2, .sl 1400055 ho1]), (265038, .map bo2 (List.map (fun p => (I p.1, .agg [I p.2.fMatch, .list 1 (List.map I p.2.fGames), .bool p.2.fProtested])) m1)), (1400055, .arr ho1 70 2 false (List.map (fun x => .agg [I x.a0, I x.a1]) l1))]) (fun _ => True) ?_ ?_
    ·(conv=>whnf);refine LnA.mk _ (List.length_map _) ?_;(conv=>whnf)
     refine LoopG.mk (Nat × (Int × Int)) (fun y => [(0, .ptr 265040 bo1 0), (3, .d (.ref (.agg [I r1.fMatch, .list 1 (List.map I r1.fGames), .bool r1.fProtested]))), (5, .d (.ref (.agg [I x2.a0, I x2.a1]))), (6, .b true), (26, .d (.list 1 (List.map I r1.fGames))), (27, .d (I y.2.1)), (28, .d (I y.2.2))]) (fun y => [(265040, .cells bo1 [.d (.int .u8 c1), .d (I c2), .d (I c3), .d (.list 3 (List.map LadderResult.enc c4)), .d (.list 4 (List.map LadderPair.enc c5)), .mp 265038 bo2, .sl 1400055 ho1]), (265038, .map bo2 (List.map (fun p => (I p.1, .agg [I p.2.fMatch, .list 1 (List.map I p.2.fGames), .bool p.2.fProtested])) m1)), (1400055, .arr ho1 70 2 false (List.map (fun x => .agg [I x.a0, I x.a1]) l1))]) (fun y => loopN (fun rr x => ladderDrawLawfulXXX_b1 N r1 c1 c2 c3 c4 c5 m1 l1 x2 rr x.1 x.2) y.1 y.2 = some fair1) (fun y => y.1) (N, ((r1.fGames.length : Int), 0)) hx59 (Sub.eq rfl ?_ ?_) ?_
     ·(repeat ((conv=>whnf);refine nr ?_));exact trivial
     ·(conv=>whnf);refine no ?_;(conv=>whnf);refine no ?_;(conv=>whnf);refine no ?_;exact trivial
     ·rintro ⟨n2, ⟨v29, v30⟩⟩ hl2;obtain ⟨n2, rfl, hl2⟩ := loopN_some hl2;replace hl2 : ladderDrawLawfulXXX_b1 N r1 c1 c2 c3 c4 c5 m1 l1 x2 (loopN (fun rr x => ladderDrawLawfulXXX_b1 N r1 c1 c2 c3 c4 c5 m1 l1 x2 rr x.1 x.2) n2) v29 v30 = some fair1 := hl2;rw [ladderDrawLawfulXXX_b1] at hl2;(conv=>whnf);refine Br.mk (fun hc48 => ?_) (fun hc48 => ?_)
      ·replace hl2 := ite_t hc48 hl2;obtain ⟨x26, hx106, hl2⟩ := obind hl2;(conv=>whnf);refine Side.mk rfl ⟨_, idx_0 hx106, idx_map _ hx106, ?_⟩;obtain ⟨v32, hx110, hl2⟩ := obind hl2;(conv=>whnf)
       refine SeqG.mk Unit (fun y => [(0, .ptr 265040 bo1 0), (3, .d (.ref (.agg [I r1.fMatch, .list 1 (List.map I r1.fGames), .bool r1.fProtested]))), (5, .d (.ref (.agg [I x2.a0, I x2.a1]))), (6, .b true), (26, .d (.list 1 (List.map I r1.fGames))), (27, .d (I v29)), (28, .d (I v30)), (47, .d (.bool v32))]) (fun y => [(265040, .cells bo1 [.d (.int .u8 c1), .d (I c2), .d (I c3), .d (.list 3 (List.map LadderResult.enc c4)), .d (.list 4 (List.map LadderPair.enc c5)), .mp 265038 bo2, .sl 1400055 ho1]), (265038, .map bo2 (List.map (fun p => (I p.1, .agg [I p.2.fMatch, .list 1 (List.map I p.2.fGames), .bool p.2.fProtested])) m1)), (1400055, .arr ho1 70 2 false (List.map (fun x => .agg [I x.a0, I x.a1]) l1))]) (fun _ => True) ?_ ?_
       ·obtain ⟨r48, hx111, hx110⟩ := obind hx110;(conv=>whnf);refine DrawG.mk (.take 1 (.alt 0 [1] (.alt 2 [] (.take 3 (.take 4 (.spl 37 (.take 5 (.take 6 (.take 7 (.take 8 (.take 9 (.take 10 (.alt 11 [8, 7, 6, 5, 3] (.alt 12 [8, 6, 3] (.take 13 (.take 14 .done)) .nil) .nil)))))))))) .nil) .nil)) (by kernel_rfl) ?_;(conv=>whnf);refine Both.mk ?_ trivial;(conv=>whnf);refine ArrS.mk (List.map I [x2.a0, x2.a1]) rfl rfl (map_cells _ fun _ => rfl) ?_;(conv=>whnf);refine nl ?_;(conv=>whnf);refine Both.mk ?_ trivial;(conv=>whnf);refine CallG.pure _ (slicesContainsC hN hx111) ?_;(conv=>whnf);refine Br.mk (fun hc53 => ?_) (fun hc53 => ?_)
        ·replace hx110 := ite_t hc53 hx110;(conv=>whnf);refine Both.mk ?_ trivial;(conv=>whnf);refine nr ?_;(conv=>whnf);refine nr ?_;(conv=>whnf);refine nr ?_;(conv=>whnf);refine nr ?_;(conv=>whnf);refine nl ?_;(conv=>whnf);refine Both.mk ?_ trivial;(conv=>whnf);refine nr ?_;(conv=>whnf);refine nr ?_;(conv=>whnf);refine nl ?_;cases hx110;(conv=>whnf);refine ⟨(), trivial, Sub.eq rfl ?_ ?_⟩
         ·(repeat ((conv=>whnf);refine nr ?_));exact trivial
         ·(conv=>whnf);refine no ?_;(conv=>whnf);refine no ?_;(conv=>whnf);refine no ?_;exact trivial
        ·replace hx110 := ite_f hc53 hx110;obtain ⟨l25, hx112, hx110⟩ := obind hx110;obtain ⟨r49, hx113, hx110⟩ := obind hx110;(conv=>whnf);refine Both.mk ?_ trivial;(conv=>whnf);refine Need.mk (slc_need _ hx112) (Eqv.mk (List.map I l25) (slc_map _ hx112) ?_);(conv=>whnf);refine nl ?_;(conv=>whnf);refine nl ?_;(conv=>whnf);refine nl ?_;(conv=>whnf);refine nl ?_;(conv=>whnf);refine nl ?_;(conv=>whnf);refine Both.mk ?_ trivial;(conv=>whnf)
         refine CallG.own (ladderDrawDecidedXXXXXC (bo1 := bo1) (bo2 := bo2) (ho1 := ho1) hN hx113) id [] _ (fun y => [(265040, .cells bo1 [.d (.int .u8 c1), .d (I c2), .d (I c3), .d (.list 3 (List.map LadderResult.enc c4)), .d (.list 4 (List.map LadderPair.enc c5)), .mp 265038 bo2, .sl 1400055 ho1]), (265038, .map bo2 (List.map (fun p => (I p.1, .agg [I p.2.fMatch, .list 1 (List.map I p.2.fGames), .bool p.2.fProtested])) m1)), (1400055, .arr ho1 70 2 false (List.map (fun x => .agg [I x.a0, I x.a1]) l1))]) (all2_le_refl _) (And.intro rfl (And.intro rfl (And.intro rfl trivial))) rfl (And.intro rfl (And.intro rfl (And.intro rfl trivial))) trivial (fun _ => AV.le_refl _) (fun _ => rfl) ?_;rintro _ _;(conv=>whnf);refine nl ?_;(conv=>whnf);refine nl ?_;(conv=>whnf);refine nl ?_;cases hx110;(conv=>whnf);refine ⟨(), trivial, Sub.eq rfl ?_ ?_⟩
         ·(repeat ((conv=>whnf);refine nr ?_));exact trivial
         ·(conv=>whnf);refine no ?_;(conv=>whnf);refine no ?_;(conv=>whnf);refine no ?_;exact trivial
       ·rintro _ _;(conv=>whnf);refine Br.mk (fun hc54 => ?_) (fun hc54 => ?_)
        ·replace hl2 := ite_t hc54 hl2;cases hl2;(conv=>whnf);refine ⟨(), trivial, Sub.eq rfl ?_ ?_⟩
         ·(repeat ((conv=>whnf);refine nr ?_));exact trivial
         ·(conv=>whnf);refine no ?_;(conv=>whnf);refine no ?_;(conv=>whnf);refine no ?_;exact trivial
        ·replace hl2 := ite_f hc54 hl2;(conv=>whnf);refine ⟨(n2, (v29, w64 (v30 + 1))), hl2, Sub.eq rfl ?_ ?_, Nat.lt_succ_self _⟩
         ·(repeat ((conv=>whnf);refine nr ?_));exact trivial
         ·(conv=>whnf);refine no ?_;(conv=>whnf);refine no ?_;(conv=>whnf);refine no ?_;exact trivial
      ·replace hl2 := ite_f hc48 hl2;cases hl2;(conv=>whnf);refine ⟨(), trivial, Sub.eq rfl ?_ ?_⟩
       ·(repeat ((conv=>whnf);refine nr ?_));exact trivial
       ·(conv=>whnf);refine no ?_;(conv=>whnf);refine no ?_;(conv=>whnf);refine no ?_;exact trivial
    ·rintro _ _;(conv=>whnf);cases h;exact ⟨(), trivial, rfl, inO_at (ren := id) (And.intro rfl (And.intro rfl (And.intro rfl trivial)))⟩
theorem ladderDrawWonXXXXXC {N : Nat} (hN : N ≤ 1073741824) {match1 : Int} {c1 : Int} {c2 : Int} {c3 : Int} {c4 : List LadderResult} {c5 : List LadderPair} {m1 : List (Int × LadderResult)} {l1 : List (Ar2 Int)} {bo1 : Nat} {bo2 : Nat} {ho1 : Value} {r : Int} (h : ladderDrawWonXXXXX N match1 c1 c2 c3 c4 c5 m1 l1 = some r) :
    ACalls Try.prog 57 [.ptr 265040 bo1 0, .d (I match1)] [(265040, .cells bo1 [.d (.int .u8 c1), .d (I c2), .d (I c3), .d (.list 3 (List.map LadderResult.enc c4)), .d (.list 4 (List.map LadderPair.enc c5)), .mp 265038 bo2, .sl 1400055 ho1]), (265038, .map bo2 (List.map (fun p => (I p.1, .agg [I p.2.fMatch, .list 1 (List.map I p.2.fGames), .bool p.2.fProtested])) m1)), (1400055, .arr ho1 70 2 false (List.map (fun x => .agg [I x.a0, I x.a1]) l1))] fun ae os => ∃ y : Unit, True ∧ ae = .ret (.d (I r)) ∧ os = [(265040, .cells bo1 [.d (.int .u8 c1), .d (I c2), .d (I c3), .d (.list 3 (List.map LadderResult.enc c4)), .d (.list 4 (List.map LadderPair.enc c5)), .mp 265038 bo2, .sl 1400055 ho1]), (265038, .map bo2 (List.map (fun p => (I p.1, .agg [I p.2.fMatch, .list 1 (List.map I p.2.fGames), .bool p.2.fProtested])) m1)), (1400055, .arr ho1 70 2 false (List.map (fun x => .agg [I x.a0, I x.a1]) l1))] := by
  refine acalls_own (fresh := false) tt_ok dr_ok ⟨[], [], [], [], [], 1410000, []⟩ Try.func57 rfl Try.call57 rfl ?_
  unfold ladderDrawWonXXXXX at h
  (conv=>whnf);refine sr ?_;obtain ⟨⟨v2, is2⟩, hx2, h⟩ := obind h;(conv=>whnf);refine Side.mk rfl (Need.mk rfl (Need.mk (fit_all (m := m1) (fun x : Int => I x) (fun x : LadderResult => .agg [I x.fMatch, .list 1 (List.map I x.fGames), .bool x.fProtested]) fun _ => rfl) (LkG.mk (.agg [I v2.fMatch, .list 1 (List.map I v2.fGames), .bool v2.fProtested]) is2 (mgt_v (eK := (fun x : Int => I x)) (eV := (fun x : LadderResult => .agg [I x.fMatch, .list 1 (List.map I x.fGames), .bool x.fProtested])) eqc_int hx2) (mgt_b (eK := (fun x : Int => I x)) (eV := (fun x : LadderResult => .agg [I x.fMatch, .list 1 (List.map I x.fGames), .bool x.fProtested])) eqc_int hx2) ?_)));(conv=>whnf);intro b2;(conv=>whnf);refine sr ?_;(conv=>whnf);refine Br.mk (fun hc2 => ?_) (fun hc2 => ?_)
  ·replace h := ite_t hc2 h;(conv=>whnf);cases h;exact ⟨(), trivial, rfl, inO_at (ren := id) (And.intro rfl (And.intro rfl (And.intro rfl trivial)))⟩
  ·replace h := ite_f hc2 h;(conv=>whnf);refine sr ?_;obtain ⟨r2, hx4, h⟩ := obind h;(conv=>whnf)
   refine CallG.own (ladderDrawDecidedXXXXXC (bo1 := bo1) (bo2 := bo2) (ho1 := ho1) hN hx4) id [(1410005, .cells b2 [.d (I v2.fMatch), .d (.list 1 (List.map I v2.fGames)), .d (.bool v2.fProtested)])] _ (fun y => [(265040, .cells bo1 [.d (.int .u8 c1), .d (I c2), .d (I c3), .d (.list 3 (List.map LadderResult.enc c4)), .d (.list 4 (List.map LadderPair.enc c5)), .mp 265038 bo2, .sl 1400055 ho1]), (265038, .map bo2 (List.map (fun p => (I p.1, .agg [I p.2.fMatch, .list 1 (List.map I p.2.fGames), .bool p.2.fProtested])) m1)), (1400055, .arr ho1 70 2 false (List.map (fun x => .agg [I x.a0, I x.a1]) l1)), (1410005, .cells b2 [.d (I v2.fMatch), .d (.list 1 (List.map I v2.fGames)), .d (.bool v2.fProtested)])]) (all2_le_refl _) (And.intro rfl (And.intro rfl (And.intro rfl trivial))) rfl (And.intro rfl (And.intro rfl (And.intro rfl trivial))) (And.intro rfl trivial) (fun _ => AV.le_refl _) (fun _ => rfl) ?_
   rintro _ _;(conv=>whnf);cases h;exact ⟨(), trivial, rfl, inO_at (ren := id) (And.intro rfl (And.intro rfl (And.intro rfl trivial)))⟩
theorem ladderDrawFillXC {N : Nat} (hN : N ≤ 1073741824) {c1 : Int} {c2 : Int} {c3 : Int} {c4 : List LadderResult} {c5 : List LadderPair} {m1 : List (Int × LadderResult)} {bo1 : Nat} {bo2 : Nat} {r : Bool × Int × Int × Int × (List LadderResult) × (List LadderPair) × (List (Ar2 Int))} (h : ladderDrawFillX N c1 c2 c3 c4 c5 m1 = some r) :
    ACalls Try.prog 79 [.ptr 265040 bo1 0] [(265040, .cells bo1 [.d (.int .u8 c1), .d (I c2), .d (I c3), .d (.list 3 (List.map LadderResult.enc c4)), .d (.list 4 (List.map LadderPair.enc c5)), .mp 265038 bo2, .nils 2]), (265038, .map bo2 (List.map (fun p => (I p.1, .agg [I p.2.fMatch, .list 1 (List.map I p.2.fGames), .bool p.2.fProtested])) m1))] fun ae os => ∃ y : Value, True ∧ ae = .ret (.d (.bool r.1)) ∧ os = [(265040, .cells bo1 [.d (.int .u8 r.2.1), .d (I r.2.2.1), .d (I r.2.2.2.1), .d (.list 3 (List.map LadderResult.enc r.2.2.2.2.1)), .d (.list 4 (List.map LadderPair.enc r.2.2.2.2.2.1)), .mp 265038 bo2, .sl 1400055 y]), (265038, .map bo2 (List.map (fun p => (I p.1, .agg [I p.2.fMatch, .list 1 (List.map I p.2.fGames), .bool p.2.fProtested])) m1)), (1400055, .arr y 70 2 false (List.map (fun x => .agg [I x.a0, I x.a1]) r.2.2.2.2.2.2))] := by
  refine acalls_own (fresh := false) tt_ok dr_ok ⟨[], [], [], [], [16, 1002, 1008], 1400000, []⟩ Try.func79 rfl Try.call79 rfl ?_
  unfold ladderDrawFillX at h
  (conv=>whnf);refine SeqG.mk ((List (Ar2 Int)) × Value) (fun y => []) (fun y => [(265040, .cells bo1 [.d (.int .u8 c1), .d (I c2), .d (I c3), .d (.list 3 (List.map LadderResult.enc c4)), .d (.list 4 (List.map LadderPair.enc c5)), .mp 265038 bo2, .sl 1400055 y.2]), (265038, .map bo2 (List.map (fun p => (I p.1, .agg [I p.2.fMatch, .list 1 (List.map I p.2.fGames), .bool p.2.fProtested])) m1)), (1400055, .arr y.2 70 2 false (List.map (fun x => .agg [I x.a0, I x.a1]) y.1))]) (fun y => ladderDrawFillX_k1 N c1 c2 c3 c4 c5 y.1 = some r) ?_ ?_
  ·(conv=>whnf);refine sr ?_;(conv=>whnf);refine LnA.mk _ (List.length_map _) ?_;(conv=>whnf)
   refine LoopG.mk (Nat × (Int × Int × (List (Ar2 Int))) × Value) (fun y => [(0, .ptr 265040 bo1 0), (3, .fn (.func 93) [.ptr 265040 bo1 0] []), (17, .d (.list 4 (List.map LadderPair.enc c5))), (18, .d (I y.2.1.1)), (19, .d (I y.2.1.2.1))]) (fun y => [(265040, .cells bo1 [.d (.int .u8 c1), .d (I c2), .d (I c3), .d (.list 3 (List.map LadderResult.enc c4)), .d (.list 4 (List.map LadderPair.enc c5)), .mp 265038 bo2, .sl 1400055 y.2.2]), (265038, .map bo2 (List.map (fun p => (I p.1, .agg [I p.2.fMatch, .list 1 (List.map I p.2.fGames), .bool p.2.fProtested])) m1)), (1400055, .arr y.2.2 70 2 false (List.map (fun x => .agg [I x.a0, I x.a1]) y.2.1.2.2))]) (fun y => loopN (fun rr x => ladderDrawFillX_b2 N c1 c2 c3 c4 c5 m1 rr x.1 x.2.1 x.2.2) y.1 y.2.1 = some r) (fun y => y.1) (N, ((c5.length : Int), 0, []), (.slice none 0 0)) h (Sub.eq rfl ?_ ?_) ?_
   ·(repeat ((conv=>whnf);refine nr ?_));exact trivial
   ·(conv=>whnf);refine Need.mk (OLe.cells _ _ _ (by repeat (first | exact trivial | ((conv => whnf); refine Need.mk rfl ?_)))) ?_;(conv=>whnf);refine no ?_;(conv=>whnf);refine Need.mk (OLe.nil _ _ _ _) ?_;exact trivial
   ·rintro ⟨n2, ⟨v47, v48, l29⟩, hd89⟩ hl2;obtain ⟨n2, rfl, hl2⟩ := loopN_some hl2;replace hl2 : ladderDrawFillX_b2 N c1 c2 c3 c4 c5 m1 (loopN (fun rr x => ladderDrawFillX_b2 N c1 c2 c3 c4 c5 m1 rr x.1 x.2.1 x.2.2) n2) v47 v48 l29 = some r := hl2;rw [ladderDrawFillX_b2] at hl2;(conv=>whnf);refine Br.mk (fun hc122 => ?_) (fun hc122 => ?_)
    ·replace hl2 := ite_t hc122 hl2;obtain ⟨x24, hx453, hl2⟩ := obind hl2;(conv=>whnf);refine Side.mk rfl ⟨_, idx_0 hx453, idx_map _ hx453, ?_⟩;(conv=>whnf);intro b420;(conv=>whnf);refine sr ?_;(conv=>whnf);intro b422;(conv=>whnf);refine sr ?_;obtain ⟨_, hx471, hl2⟩ := obind hl2;(conv=>whnf);refine CallG.pure _ (ladderSidesC hN hx471) ?_;(conv=>whnf);refine LoopG.unr 3 ?_;obtain ⟨c52, hx475, hl2⟩ := obind hl2;(conv=>whnf)
     refine SeqG.mk Unit (fun y => [(0, .ptr 265040 bo1 0), (3, .fn (.func 93) [.ptr 265040 bo1 0] []), (4, .d (I v48)), (5, .ptr 1400005 b420 0), (6, .ptr 1400006 b422 0), (17, .d (.list 4 (List.map LadderPair.enc c5))), (18, .d (I v47)), (19, .d (I v48)), (25, .d (.agg [.fn (.func 87) [] [], .fn (.func 88) [] []])), (26, .i .i64 0)]) (fun y => [(265040, .cells bo1 [.d (.int .u8 c1), .d (I c2), .d (I c3), .d (.list 3 (List.map LadderResult.enc c4)), .d (.list 4 (List.map LadderPair.enc c5)), .mp 265038 bo2, .sl 1400055 hd89]), (1400005, .cells b420 [.d (I x24.fFirst.fPlayer), .d (I x24.fFirst.fMatch), .d (I x24.fSecond.fPlayer), .d (I x24.fSecond.fMatch)]), (1400006, .cells b422 [.d (I c52.a0), .d (I c52.a1)]), (265038, .map bo2 (List.map (fun p => (I p.1, .agg [I p.2.fMatch, .list 1 (List.map I p.2.fGames), .bool p.2.fProtested])) m1)), (1400055, .arr hd89 70 2 false (List.map (fun x => .agg [I x.a0, I x.a1]) l29))]) (fun _ => True) ?_ ?_
     ·(conv=>whnf);refine IxG.mk 0 rfl (by decide) ?_;(conv=>whnf);intro b444;(conv=>whnf);refine sr ?_;(conv=>whnf);refine sr ?_;(conv=>whnf);refine sr ?_;obtain ⟨r303, hx477, hx475⟩ := obind hx475;(conv=>whnf);refine CallG.pure _ (ladderPairFirstC hN hx477) ?_;(conv=>whnf);intro b446;(conv=>whnf);refine sr ?_;(conv=>whnf);refine sr ?_;(conv=>whnf);refine Br.mk (fun hc139 => ?_) (fun hc139 => ?_)
      ·replace hx475 := ite_t hc139 hx475;(conv=>whnf);refine sr ?_;(conv=>whnf);refine IxG.mk 0 rfl (by decide) ?_;(conv=>whnf);refine sr ?_;cases hx475;(conv=>whnf);refine ⟨(), trivial, Sub.eq rfl ?_ ?_⟩
       ·(repeat ((conv=>whnf);refine nr ?_));exact trivial
       ·(conv=>whnf);refine no ?_;(conv=>whnf);refine no ?_;(conv=>whnf);refine no ?_;(conv=>whnf);refine no ?_;(conv=>whnf);refine no ?_;exact trivial
      ·replace hx475 := ite_f hc139 hx475;(conv=>whnf);refine sr ?_;obtain ⟨r304, hx478, hx475⟩ := obind hx475;(conv=>whnf)
       refine CallG.own (ladderDrawWonXXXXXC (bo1 := bo1) (bo2 := bo2) (ho1 := hd89) hN hx478) id [(1400005, .cells b420 [.d (I x24.fFirst.fPlayer), .d (I x24.fFirst.fMatch), .d (I x24.fSecond.fPlayer), .d (I x24.fSecond.fMatch)]), (1400006, .cells b422 [.d (I (-1)), .d (I (-1))]), (1400008, .cells b444 [.d (.fn (.func 87) [] [])]), (1400009, .cells b446 [.d (I r303.fPlayer), .d (I r303.fMatch)])] _ (fun y => [(265040, .cells bo1 [.d (.int .u8 c1), .d (I c2), .d (I c3), .d (.list 3 (List.map LadderResult.enc c4)), .d (.list 4 (List.map LadderPair.enc c5)), .mp 265038 bo2, .sl 1400055 hd89]), (265038, .map bo2 (List.map (fun p => (I p.1, .agg [I p.2.fMatch, .list 1 (List.map I p.2.fGames), .bool p.2.fProtested])) m1)), (1400055, .arr hd89 70 2 false (List.map (fun x => .agg [I x.a0, I x.a1]) l29)), (1400005, .cells b420 [.d (I x24.fFirst.fPlayer), .d (I x24.fFirst.fMatch), .d (I x24.fSecond.fPlayer), .d (I x24.fSecond.fMatch)]), (1400006, .cells b422 [.d (I (-1)), .d (I (-1))]), (1400008, .cells b444 [.d (.fn (.func 87) [] [])]), (1400009, .cells b446 [.d (I r303.fPlayer), .d (I r303.fMatch)])]) (all2_le_refl _) (And.intro rfl (And.intro rfl (And.intro rfl trivial))) rfl (And.intro rfl (And.intro rfl (And.intro rfl trivial))) (And.intro rfl (And.intro rfl (And.intro rfl (And.intro rfl trivial)))) (fun _ => AV.le_refl _) (fun _ => rfl) ?_
       rintro _ _;(conv=>whnf);refine IxG.mk 0 rfl (by decide) ?_;(conv=>whnf);refine sr ?_;cases hx475;(conv=>whnf);refine ⟨(), trivial, Sub.eq rfl ?_ ?_⟩
       ·(repeat ((conv=>whnf);refine nr ?_));exact trivial
       ·(conv=>whnf);refine no ?_;(conv=>whnf);refine no ?_;(conv=>whnf);refine no ?_;(conv=>whnf);refine no ?_;(conv=>whnf);refine no ?_;exact trivial
     ·rintro _ _;obtain ⟨c53, hx482, hl2⟩ := obind hl2;(conv=>whnf)
      refine SeqG.mk Unit (fun y => [(0, .ptr 265040 bo1 0), (3, .fn (.func 93) [.ptr 265040 bo1 0] []), (4, .d (I v48)), (5, .ptr 1400005 b420 0), (6, .ptr 1400006 b422 0), (17, .d (.list 4 (List.map LadderPair.enc c5))), (18, .d (I v47)), (19, .d (I v48)), (25, .d (.agg [.fn (.func 87) [] [], .fn (.func 88) [] []])), (26, .i .i64 1)]) (fun y => [(265040, .cells bo1 [.d (.int .u8 c1), .d (I c2), .d (I c3), .d (.list 3 (List.map LadderResult.enc c4)), .d (.list 4 (List.map LadderPair.enc c5)), .mp 265038 bo2, .sl 1400055 hd89]), (1400005, .cells b420 [.d (I x24.fFirst.fPlayer), .d (I x24.fFirst.fMatch), .d (I x24.fSecond.fPlayer), .d (I x24.fSecond.fMatch)]), (1400006, .cells b422 [.d (I c53.a0), .d (I c53.a1)]), (265038, .map bo2 (List.map (fun p => (I p.1, .agg [I p.2.fMatch, .list 1 (List.map I p.2.fGames), .bool p.2.fProtested])) m1)), (1400055, .arr hd89 70 2 false (List.map (fun x => .agg [I x.a0, I x.a1]) l29))]) (fun _ => True) ?_ ?_
      ·(conv=>whnf);refine IxG.mk 1 rfl (by decide) ?_;(conv=>whnf);intro b452;(conv=>whnf);refine sr ?_;(conv=>whnf);refine sr ?_;(conv=>whnf);refine sr ?_;obtain ⟨r309, hx484, hx482⟩ := obind hx482;(conv=>whnf);refine CallG.pure _ (ladderPairSecondC hN hx484) ?_;(conv=>whnf);intro b454;(conv=>whnf);refine sr ?_;(conv=>whnf);refine sr ?_;(conv=>whnf);refine Br.mk (fun hc141 => ?_) (fun hc141 => ?_)
       ·replace hx482 := ite_t hc141 hx482;(conv=>whnf);refine sr ?_;(conv=>whnf);refine IxG.mk 1 rfl (by decide) ?_;(conv=>whnf);refine sr ?_;cases hx482;(conv=>whnf);refine ⟨(), trivial, Sub.eq rfl ?_ ?_⟩
        ·(repeat ((conv=>whnf);refine nr ?_));exact trivial
        ·(conv=>whnf);refine no ?_;(conv=>whnf);refine no ?_;(conv=>whnf);refine no ?_;(conv=>whnf);refine no ?_;(conv=>whnf);refine no ?_;exact trivial
       ·replace hx482 := ite_f hc141 hx482;(conv=>whnf);refine sr ?_;obtain ⟨r310, hx485, hx482⟩ := obind hx482;(conv=>whnf)
        refine CallG.own (ladderDrawWonXXXXXC (bo1 := bo1) (bo2 := bo2) (ho1 := hd89) hN hx485) id [(1400005, .cells b420 [.d (I x24.fFirst.fPlayer), .d (I x24.fFirst.fMatch), .d (I x24.fSecond.fPlayer), .d (I x24.fSecond.fMatch)]), (1400006, .cells b422 [.d (I c52.a0), .d (I c52.a1)]), (1400008, .cells b452 [.d (.fn (.func 88) [] [])]), (1400009, .cells b454 [.d (I r309.fPlayer), .d (I r309.fMatch)])] _ (fun y => [(265040, .cells bo1 [.d (.int .u8 c1), .d (I c2), .d (I c3), .d (.list 3 (List.map LadderResult.enc c4)), .d (.list 4 (List.map LadderPair.enc c5)), .mp 265038 bo2, .sl 1400055 hd89]), (265038, .map bo2 (List.map (fun p => (I p.1, .agg [I p.2.fMatch, .list 1 (List.map I p.2.fGames), .bool p.2.fProtested])) m1)), (1400055, .arr hd89 70 2 false (List.map (fun x => .agg [I x.a0, I x.a1]) l29)), (1400005, .cells b420 [.d (I x24.fFirst.fPlayer), .d (I x24.fFirst.fMatch), .d (I x24.fSecond.fPlayer), .d (I x24.fSecond.fMatch)]), (1400006, .cells b422 [.d (I c52.a0), .d (I c52.a1)]), (1400008, .cells b452 [.d (.fn (.func 88) [] [])]), (1400009, .cells b454 [.d (I r309.fPlayer), .d (I r309.fMatch)])]) (all2_le_refl _) (And.intro rfl (And.intro rfl (And.intro rfl trivial))) rfl (And.intro rfl (And.intro rfl (And.intro rfl trivial))) (And.intro rfl (And.intro rfl (And.intro rfl (And.intro rfl trivial)))) (fun _ => AV.le_refl _) (fun _ => rfl) ?_
        rintro _ _;(conv=>whnf);refine IxG.mk 1 rfl (by decide) ?_;(conv=>whnf);refine sr ?_;cases hx482;(conv=>whnf);refine ⟨(), trivial, Sub.eq rfl ?_ ?_⟩
        ·(repeat ((conv=>whnf);refine nr ?_));exact trivial
        ·(conv=>whnf);refine no ?_;(conv=>whnf);refine no ?_;(conv=>whnf);refine no ?_;(conv=>whnf);refine no ?_;(conv=>whnf);refine no ?_;exact trivial
      ·rintro _ _;obtain ⟨l33, hx487, hl2⟩ := obind hl2;(conv=>whnf);refine DrawG.mk (.take 0 (.take 1 (.take 2 (.take 3 (.take 4 (.take 5 (.alt 6 [4, 3, 2, 1, 0] (.alt 7 [3, 2, 1, 0] (.take 8 (.take 9 (.alt 10 [8] .done .nil))) .nil) .nil))))))) (by kernel_rfl) ?_;(conv=>whnf);refine sr ?_;(conv=>whnf);refine sr ?_;(conv=>whnf);refine Both.mk ?_ trivial;(conv=>whnf);intro hd104;(conv=>whnf);refine sr ?_;(conv=>whnf);refine nl ?_;(conv=>whnf);refine nl ?_;(conv=>whnf);refine nl ?_;(conv=>whnf);refine nl ?_;(conv=>whnf);refine nl ?_;(conv=>whnf);refine Both.mk ?_ trivial;(conv=>whnf);refine Side.mk ⟨rfl, rfl⟩ ?_;(conv=>whnf);refine Side.mk ⟨rfl, rfl, rfl⟩ (Need.mk (app_need hN hx487 (by decide)) (Eqv.mk (List.map (fun x => .agg [I x.a0, I x.a1]) l33) (app_map _ hx487) ?_));(conv=>whnf);intro hd105;(conv=>whnf);refine nl ?_;(conv=>whnf);refine nl ?_;(conv=>whnf);refine nl ?_;(conv=>whnf)
       refine nl ?_;(conv=>whnf);refine Both.mk ?_ trivial;(conv=>whnf);refine sr ?_;(conv=>whnf);refine nl ?_;(conv=>whnf);refine sr ?_;obtain ⟨⟨v53, is24⟩, hx489, hl2⟩ := obind hl2;(conv=>whnf);refine Side.mk rfl (Need.mk rfl (Need.mk (fit_all (m := m1) (fun x : Int => I x) (fun x : LadderResult => .agg [I x.fMatch, .list 1 (List.map I x.fGames), .bool x.fProtested]) fun _ => rfl) (LkG.mk (.agg [I v53.fMatch, .list 1 (List.map I v53.fGames), .bool v53.fProtested]) is24 (mgt_v (eK := (fun x : Int => I x)) (eV := (fun x : LadderResult => .agg [I x.fMatch, .list 1 (List.map I x.fGames), .bool x.fProtested])) eqc_int hx489) (mgt_b (eK := (fun x : Int => I x)) (eV := (fun x : LadderResult => .agg [I x.fMatch, .list 1 (List.map I x.fGames), .bool x.fProtested])) eqc_int hx489) ?_)));(conv=>whnf);intro b456;(conv=>whnf);refine sr ?_;obtain ⟨v54, hx491, hl2⟩ := obind hl2;(conv=>whnf)
       refine SeqG.mk Unit (fun y => [(0, .ptr 265040 bo1 0), (3, .fn (.func 93) [.ptr 265040 bo1 0] []), (17, .d (.list 4 (List.map LadderPair.enc c5))), (18, .d (I v47)), (19, .d (I v48)), (73, .d (.bool v54))]) (fun y => [(265040, .cells bo1 [.d (.int .u8 c1), .d (I c2), .d (I c3), .d (.list 3 (List.map LadderResult.enc c4)), .d (.list 4 (List.map LadderPair.enc c5)), .mp 265038 bo2, .sl 1400055 hd105]), (265038, .map bo2 (List.map (fun p => (I p.1, .agg [I p.2.fMatch, .list 1 (List.map I p.2.fGames), .bool p.2.fProtested])) m1)), (1400055, .arr hd105 70 2 false (List.map (fun x => .agg [I x.a0, I x.a1]) l33))]) (fun _ => True) ?_ ?_
       ·(conv=>whnf);refine Br.mk (fun hc143 => ?_) (fun hc143 => ?_)
        ·replace hx491 := ite_t hc143 hx491;(conv=>whnf);refine sr ?_;obtain ⟨r312, hx492, hx491⟩ := obind hx491;(conv=>whnf)
         refine CallG.own (ladderDrawLawfulXXXC (bo1 := bo1) (bo2 := bo2) (ho1 := hd105) hN hx492) id [(1400005, .cells b420 [.d (I x24.fFirst.fPlayer), .d (I x24.fFirst.fMatch), .d (I x24.fSecond.fPlayer), .d (I x24.fSecond.fMatch)]), (1400006, .cells b422 [.d (I c53.a0), .d (I c53.a1)]), (1400054, .arr hd104 70 2 false (List.map (fun x => .agg [I x.a0, I x.a1]) ([c53]))), (1400010, .cells b456 [.d (I v53.fMatch), .d (.list 1 (List.map I v53.fGames)), .d (.bool v53.fProtested)])] _ (fun y => [(265040, .cells bo1 [.d (.int .u8 c1), .d (I c2), .d (I c3), .d (.list 3 (List.map LadderResult.enc c4)), .d (.list 4 (List.map LadderPair.enc c5)), .mp 265038 bo2, .sl 1400055 hd105]), (265038, .map bo2 (List.map (fun p => (I p.1, .agg [I p.2.fMatch, .list 1 (List.map I p.2.fGames), .bool p.2.fProtested])) m1)), (1400055, .arr hd105 70 2 false (List.map (fun x => .agg [I x.a0, I x.a1]) l33)), (1400005, .cells b420 [.d (I x24.fFirst.fPlayer), .d (I x24.fFirst.fMatch), .d (I x24.fSecond.fPlayer), .d (I x24.fSecond.fMatch)]), (1400006, .cells b422 [.d (I c53.a0), .d (I c53.a1)]), (1400054, .arr hd104 70 2 false (List.map (fun x => .agg [I x.a0, I x.a1]) ([c53]))), (1400010, .cells b456 [.d (I v53.fMatch), .d (.list 1 (List.map I v53.fGames)), .d (.bool v53.fProtested)])]) (all2_le_refl _) (And.intro rfl (And.intro rfl (And.intro rfl trivial))) rfl (And.intro rfl (And.intro rfl (And.intro rfl trivial))) (And.intro rfl (And.intro rfl (And.intro rfl (And.intro rfl trivial)))) (fun _ => AV.le_refl _) (fun _ => rfl) ?_
         rintro _ _;cases hx491;(conv=>whnf);refine ⟨(), trivial, Sub.eq rfl ?_ ?_⟩
         ·(repeat ((conv=>whnf);refine nr ?_));exact trivial
         ·(conv=>whnf);refine no ?_;(conv=>whnf);refine no ?_;(conv=>whnf);refine no ?_;exact trivial
        ·replace hx491 := ite_f hc143 hx491;cases hx491;(conv=>whnf);refine ⟨(), trivial, Sub.eq rfl ?_ ?_⟩
         ·(repeat ((conv=>whnf);refine nr ?_));exact trivial
         ·(conv=>whnf);refine no ?_;(conv=>whnf);refine no ?_;(conv=>whnf);refine no ?_;exact trivial
       ·rintro _ _;(conv=>whnf);refine Br.mk (fun hc144 => ?_) (fun hc144 => ?_)
        ·replace hl2 := ite_t hc144 hl2;(conv=>whnf);cases hl2;exact ⟨hd105, trivial, rfl, inO_at (ren := id) (And.intro rfl (And.intro rfl (And.intro rfl trivial)))⟩
        ·replace hl2 := ite_f hc144 hl2;(conv=>whnf);refine ⟨(n2, (v47, w64 (v48 + 1), l33), hd105), hl2, Sub.eq rfl ?_ ?_, Nat.lt_succ_self _⟩
         ·(repeat ((conv=>whnf);refine nr ?_));exact trivial
         ·(conv=>whnf);refine no ?_;(conv=>whnf);refine no ?_;(conv=>whnf);refine no ?_;exact trivial
    ·replace hl2 := ite_f hc122 hl2;(conv=>whnf);refine ⟨(l29, hd89), hl2, Sub.eq rfl ?_ ?_⟩
     ·(repeat ((conv=>whnf);refine nr ?_));exact trivial
     ·(conv=>whnf);refine no ?_;(conv=>whnf);refine no ?_;(conv=>whnf);refine no ?_;exact trivial
  ·clear h;rintro ⟨l17, hd53⟩ h;unfold ladderDrawFillX_k1 at h;(conv=>whnf);cases h;exact ⟨hd53, trivial, rfl, inO_at (ren := id) (And.intro rfl (And.intro rfl (And.intro rfl trivial)))⟩
end Go.Proofs.Ytbceakhnnnfiaaa
