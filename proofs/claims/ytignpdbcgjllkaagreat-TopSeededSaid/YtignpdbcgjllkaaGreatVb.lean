/-
  Walks: what the typed functions compute, the program’s functions return.
-/
import Derived.Test.YtignpdbcgjllkaaGreatWe
import Derived.Test.YtignpdbcgjllkaaGreatVa
namespace Go.Proofs.YtignpdbcgjllkaaGreat
open Go Go.Abs Go.Kp
set_option maxRecDepth 100000
set_option maxHeartbeats 8000000
set_option linter.all false
theorem slicesIndexFuncXXXXC {N : Nat} (hN : N ≤ 1073741824) {s1 : List LeagueGame} {f1 : LeagueLeague} {r : Int} (h : slicesIndexFuncXXXX N s1 f1 = some r) :
    ACalls Tryz.prog 140 [.d (.list 5 (List.map LeagueGame.enc s1)), .d (.fn (.func 109) [] [.ref (.agg [.fn (.func 72) [.agg [I f1.fTeams, .list 5 (List.map LeagueGame.enc f1.fGames)]] []])])] [] fun e os => e = .ret (.d (I r)) ∧ os = [] := by
  refine acalls_f (fresh := false) tt_ok dr_ok ⟨[], [], [], [], [1001], 0, []⟩ Tryz.func140 rfl Tryz.call140 rfl ?_
  unfold slicesIndexFuncXXXX at h
  (conv=>whnf);refine SeqG.mk Unit (fun y => []) (fun y => []) (fun y => slicesIndexFuncXXXX_k1 N = some r) ?_ ?_
  ·(conv=>whnf);refine LnA.mk _ (List.length_map _) ?_;(conv=>whnf);refine LoopG.mk (Nat × (Int × Int)) (fun y => [(0, .d (.list 5 (List.map LeagueGame.enc s1))), (1, .d (.fn (.func 109) [] [.ref (.agg [.fn (.func 72) [.agg [I f1.fTeams, .list 5 (List.map LeagueGame.enc f1.fGames)]] []])])), (7, .d (I y.2.1)), (8, .d (I y.2.2))]) (fun y => []) (fun y => loopN (fun rr x => slicesIndexFuncXXXX_b2 N s1 f1 rr x.1 x.2) y.1 y.2 = some r) (fun y => y.1) (N, ((s1.length : Int), 0)) h (Sub.eq rfl ?_ ?_) ?_
   ·(repeat ((conv=>whnf);refine nr ?_));exact trivial
   ·exact trivial
   ·rintro ⟨n2, ⟨v17, v18⟩⟩ hl2;obtain ⟨n2, rfl, hl2⟩ := loopN_some hl2;replace hl2 : slicesIndexFuncXXXX_b2 N s1 f1 (loopN (fun rr x => slicesIndexFuncXXXX_b2 N s1 f1 rr x.1 x.2) n2) v17 v18 = some r := hl2;rw [slicesIndexFuncXXXX_b2] at hl2;(conv=>whnf);refine Br.mk (fun hc22 => ?_) (fun hc22 => ?_)
    ·replace hl2 := ite_t hc22 hl2;obtain ⟨x24, hx47, hl2⟩ := obind hl2;(conv=>whnf);refine Side.mk rfl ⟨_, idx_0 hx47, idx_map _ hx47, ?_⟩;obtain ⟨r24, hx48, hl2⟩ := obind hl2;(conv=>whnf);refine CallG.pure _ (leagueAll1C hN hx48) ?_;(conv=>whnf);refine Br.mk (fun hc24 => ?_) (fun hc24 => ?_)
     ·replace hl2 := ite_t hc24 hl2;(conv=>whnf);cases hl2;exact rfl
     ·replace hl2 := ite_f hc24 hl2;(conv=>whnf);refine ⟨(n2, (v17, w64 (v18 + 1))), hl2, Sub.eq rfl ?_ ?_, Nat.lt_succ_self _⟩
      ·(repeat ((conv=>whnf);refine nr ?_));exact trivial
      ·exact trivial
    ·replace hl2 := ite_f hc22 hl2;(conv=>whnf);refine ⟨(), hl2, Sub.eq rfl ?_ ?_⟩
     ·(repeat ((conv=>whnf);refine nr ?_));exact trivial
     ·exact trivial
  ·clear h;rintro _ h;unfold slicesIndexFuncXXXX_k1 at h;(conv=>whnf);cases h;exact rfl
theorem slicesContainsFuncXXXXC {N : Nat} (hN : N ≤ 1073741824) {s1 : List LeagueGame} {f1 : LeagueLeague} {r : Bool} (h : slicesContainsFuncXXXX N s1 f1 = some r) :
    ACalls Tryz.prog 108 [.d (.list 5 (List.map LeagueGame.enc s1)), .d (.fn (.func 109) [] [.ref (.agg [.fn (.func 72) [.agg [I f1.fTeams, .list 5 (List.map LeagueGame.enc f1.fGames)]] []])])] [] fun e os => e = .ret (.d (.bool r)) ∧ os = [] := by
  refine acalls_f (fresh := false) tt_ok dr_ok ⟨[], [], [], [], [], 0, []⟩ Tryz.func108 rfl Tryz.call108 rfl ?_
  unfold slicesContainsFuncXXXX at h
  obtain ⟨r2, hx2, h⟩ := obind h;(conv=>whnf);refine CallG.pure _ (slicesIndexFuncXXXXC hN hx2) ?_;(conv=>whnf);cases h;exact rfl
theorem leagueAllC {N : Nat} (hN : N ≤ 1073741824) {l1 : List LeagueGame} {right1 : LeagueLeague} {r : Bool} (h : leagueAll N l1 right1 = some r) :
    ACalls Tryz.prog 71 [.d (.list 5 (List.map LeagueGame.enc l1)), .d (.fn (.func 72) [.agg [I right1.fTeams, .list 5 (List.map LeagueGame.enc right1.fGames)]] [])] [] fun e os => e = .ret (.d (.bool r)) ∧ os = [] := by
  refine acalls_f (fresh := false) tt_ok dr_ok ⟨[3], [], [], [], [], 0, []⟩ Tryz.func71 rfl Tryz.call71 rfl ?_
  unfold leagueAll at h
  obtain ⟨r2, hx2, h⟩ := obind h;(conv=>whnf);refine CallG.pure _ (slicesContainsFuncXXXXC hN hx2) ?_;(conv=>whnf);cases h;exact rfl
theorem leagueCheckLeagueC {N : Nat} (hN : N ≤ 1073741824) {l1 : LeagueLeague} {r : Int} (h : leagueCheckLeague N l1 = some r) :
    ACalls Tryz.prog 40 [.d (.agg [I l1.fTeams, .list 5 (List.map LeagueGame.enc l1.fGames)])] [] fun e os => e = .ret (.d (I r)) ∧ os = [] := by
  refine acalls_f (fresh := false) tt_ok dr_ok ⟨[1], [], [], [], [3], 0, []⟩ Tryz.func40 rfl Tryz.call40 rfl ?_
  unfold leagueCheckLeague at h
  (conv=>whnf);refine LnA.mk _ (List.length_map _) ?_;(conv=>whnf);refine Br.mk (fun hc5 => ?_) (fun hc5 => ?_)
  ·replace h := ite_t hc5 h;cases h
  ·replace h := ite_f hc5 h;obtain ⟨v2, hx8, h⟩ := obind h;(conv=>whnf);refine SeqG.mk Unit (fun y => [(8, .d (.bool v2))]) (fun y => []) (fun _ => True) ?_ ?_
   ·obtain ⟨r7, hx9, hx8⟩ := obind hx8;(conv=>whnf);refine CallG.pure _ (leagueTeamsC hN hx9) ?_;(conv=>whnf);refine Br.mk (fun hc7 => ?_) (fun hc7 => ?_)
    ·replace hx8 := ite_f hc7 hx8;obtain ⟨r8, hx10, hx8⟩ := obind hx8;(conv=>whnf);refine CallG.pure _ (leagueAllC hN hx10) ?_;cases hx8;(conv=>whnf);refine ⟨(), trivial, Sub.eq rfl ?_ ?_⟩
     ·(repeat ((conv=>whnf);refine nr ?_));exact trivial
     ·exact trivial
    ·replace hx8 := ite_t hc7 hx8;cases hx8;(conv=>whnf);refine ⟨(), trivial, Sub.eq rfl ?_ ?_⟩
     ·(repeat ((conv=>whnf);refine nr ?_));exact trivial
     ·exact trivial
   ·rintro _ _;(conv=>whnf);refine Br.mk (fun hc8 => ?_) (fun hc8 => ?_)
    ·replace h := ite_t hc8 h;cases h
    ·replace h := ite_f hc8 h;(conv=>whnf);cases h;exact rfl
theorem leagueRank1C {N : Nat} (hN : N ≤ 1073741824) {r1 : Int} {r : Bool} (h : leagueRank1 N r1 = some r) :
    ACalls Tryz.prog 42 [.d (.int .u8 r1)] [] fun e os => e = .ret (.d (.bool r)) ∧ os = [] := by
  refine acalls_f (fresh := false) tt_ok dr_ok ⟨[], [], [], [], [1], 0, []⟩ Tryz.func42 rfl Tryz.call42 rfl ?_
  unfold leagueRank1 at h
  obtain ⟨v1, hx1, h⟩ := obind h;(conv=>whnf);refine SeqG.mk Unit (fun y => [(2, .d (.bool v1))]) (fun y => []) (fun _ => True) ?_ ?_
  ·(conv=>whnf);refine Br.mk (fun hc2 => ?_) (fun hc2 => ?_)
   ·replace hx1 := ite_t hc2 hx1;cases hx1;(conv=>whnf);refine ⟨(), trivial, Sub.eq rfl ?_ ?_⟩
    ·(repeat ((conv=>whnf);refine nr ?_));exact trivial
    ·exact trivial
   ·replace hx1 := ite_f hc2 hx1;cases hx1;(conv=>whnf);refine ⟨(), trivial, Sub.eq rfl ?_ ?_⟩
    ·(repeat ((conv=>whnf);refine nr ?_));exact trivial
    ·exact trivial
  ·rintro _ _;(conv=>whnf);cases h;exact rfl
theorem leagueAll1XC {N : Nat} (hN : N ≤ 1073741824) {x1 : Int} {r : Bool} (h : leagueAll1X N x1 = some r) :
    ACalls Tryz.prog 74 [.d (.int .u8 x1), .d (.ref (.agg [.fn (.func 42) [] []]))] [] fun e os => e = .ret (.d (.bool r)) ∧ os = [] := by
  refine acalls_f (fresh := false) tt_ok dr_ok ⟨[], [], [], [], [], 0, []⟩ Tryz.func74 rfl Tryz.call74 rfl ?_
  unfold leagueAll1X at h
  obtain ⟨r2, hx2, h⟩ := obind h;(conv=>whnf);refine CallG.pure _ (leagueRank1C hN hx2) ?_;(conv=>whnf);cases h;exact rfl
theorem slicesIndexFuncXXXXXC {N : Nat} (hN : N ≤ 1073741824) {s1 : List Int} {r : Int} (h : slicesIndexFuncXXXXX N s1 = some r) :
    ACalls Tryz.prog 110 [.d (.list 1 (List.map (fun x => .int .u8 x) s1)), .d (.fn (.func 74) [] [.ref (.agg [.fn (.func 42) [] []])])] [] fun e os => e = .ret (.d (I r)) ∧ os = [] := by
  refine acalls_f (fresh := false) tt_ok dr_ok ⟨[], [], [], [], [1001], 0, []⟩ Tryz.func110 rfl Tryz.call110 rfl ?_
  unfold slicesIndexFuncXXXXX at h
  (conv=>whnf);refine SeqG.mk Unit (fun y => []) (fun y => []) (fun y => slicesIndexFuncXXXXX_k1 N = some r) ?_ ?_
  ·(conv=>whnf);refine LnA.mk _ (List.length_map _) ?_;(conv=>whnf);refine LoopG.mk (Nat × (Int × Int)) (fun y => [(0, .d (.list 1 (List.map (fun x => .int .u8 x) s1))), (1, .d (.fn (.func 74) [] [.ref (.agg [.fn (.func 42) [] []])])), (7, .d (I y.2.1)), (8, .d (I y.2.2))]) (fun y => []) (fun y => loopN (fun rr x => slicesIndexFuncXXXXX_b2 N s1 rr x.1 x.2) y.1 y.2 = some r) (fun y => y.1) (N, ((s1.length : Int), 0)) h (Sub.eq rfl ?_ ?_) ?_
   ·(repeat ((conv=>whnf);refine nr ?_));exact trivial
   ·exact trivial
   ·rintro ⟨n2, ⟨v17, v18⟩⟩ hl2;obtain ⟨n2, rfl, hl2⟩ := loopN_some hl2;replace hl2 : slicesIndexFuncXXXXX_b2 N s1 (loopN (fun rr x => slicesIndexFuncXXXXX_b2 N s1 rr x.1 x.2) n2) v17 v18 = some r := hl2;rw [slicesIndexFuncXXXXX_b2] at hl2;(conv=>whnf);refine Br.mk (fun hc22 => ?_) (fun hc22 => ?_)
    ·replace hl2 := ite_t hc22 hl2;obtain ⟨x24, hx47, hl2⟩ := obind hl2;(conv=>whnf);refine Side.mk rfl ⟨_, idx_0 hx47, idx_map _ hx47, ?_⟩;obtain ⟨r24, hx48, hl2⟩ := obind hl2;(conv=>whnf);refine CallG.pure _ (leagueAll1XC hN hx48) ?_;(conv=>whnf);refine Br.mk (fun hc24 => ?_) (fun hc24 => ?_)
     ·replace hl2 := ite_t hc24 hl2;(conv=>whnf);cases hl2;exact rfl
     ·replace hl2 := ite_f hc24 hl2;(conv=>whnf);refine ⟨(n2, (v17, w64 (v18 + 1))), hl2, Sub.eq rfl ?_ ?_, Nat.lt_succ_self _⟩
      ·(repeat ((conv=>whnf);refine nr ?_));exact trivial
      ·exact trivial
    ·replace hl2 := ite_f hc22 hl2;(conv=>whnf);refine ⟨(), hl2, Sub.eq rfl ?_ ?_⟩
     ·(repeat ((conv=>whnf);refine nr ?_));exact trivial
     ·exact trivial
  ·clear h;rintro _ h;unfold slicesIndexFuncXXXXX_k1 at h;(conv=>whnf);cases h;exact rfl
theorem slicesContainsFuncXXXXXC {N : Nat} (hN : N ≤ 1073741824) {s1 : List Int} {r : Bool} (h : slicesContainsFuncXXXXX N s1 = some r) :
    ACalls Tryz.prog 73 [.d (.list 1 (List.map (fun x => .int .u8 x) s1)), .d (.fn (.func 74) [] [.ref (.agg [.fn (.func 42) [] []])])] [] fun e os => e = .ret (.d (.bool r)) ∧ os = [] := by
  refine acalls_f (fresh := false) tt_ok dr_ok ⟨[], [], [], [], [], 0, []⟩ Tryz.func73 rfl Tryz.call73 rfl ?_
  unfold slicesContainsFuncXXXXX at h
  obtain ⟨r2, hx2, h⟩ := obind h;(conv=>whnf);refine CallG.pure _ (slicesIndexFuncXXXXXC hN hx2) ?_;(conv=>whnf);cases h;exact rfl
theorem leagueAllXC {N : Nat} (hN : N ≤ 1073741824) {l1 : List Int} {r : Bool} (h : leagueAllX N l1 = some r) :
    ACalls Tryz.prog 41 [.d (.list 1 (List.map (fun x => .int .u8 x) l1)), .d (.fn (.func 42) [] [])] [] fun e os => e = .ret (.d (.bool r)) ∧ os = [] := by
  refine acalls_f (fresh := false) tt_ok dr_ok ⟨[3], [], [], [], [], 0, []⟩ Tryz.func41 rfl Tryz.call41 rfl ?_
  unfold leagueAllX at h
  obtain ⟨r2, hx2, h⟩ := obind h;(conv=>whnf);refine CallG.pure _ (slicesContainsFuncXXXXXC hN hx2) ?_;(conv=>whnf);cases h;exact rfl
theorem leagueRuleC {N : Nat} (hN : N ≤ 1073741824) {code1 : Int} {r : LeagueRuled} (h : leagueRule N code1 = some r) :
    ACalls Tryz.prog 44 [.d (.int .u8 code1)] [] fun e os => e = .ret (.d (.agg [.fn (.func (fnv116 r.fOf)) [] []])) ∧ os = [] := by
  refine acalls_f (fresh := false) tt_ok dr_ok ⟨[], [], [], [], [], 0, []⟩ Tryz.func44 rfl Tryz.call44 rfl ?_
  unfold leagueRule at h
  (conv=>whnf);intro b2;(conv=>whnf);refine Br.mk (fun hc4 => ?_) (fun hc4 => ?_)
  ·replace h := ite_t hc4 h;(conv=>whnf);refine sr ?_;(conv=>whnf);refine sr ?_;(conv=>whnf);cases h;exact rfl
  ·replace h := ite_f hc4 h;(conv=>whnf);refine Br.mk (fun hc5 => ?_) (fun hc5 => ?_)
   ·replace h := ite_t hc5 h;(conv=>whnf);refine sr ?_;(conv=>whnf);refine sr ?_;(conv=>whnf);cases h;exact rfl
   ·replace h := ite_f hc5 h;(conv=>whnf);refine Br.mk (fun hc6 => ?_) (fun hc6 => ?_)
    ·replace h := ite_t hc6 h;(conv=>whnf);refine sr ?_;(conv=>whnf);refine sr ?_;(conv=>whnf);cases h;exact rfl
    ·replace h := ite_f hc6 h;(conv=>whnf);refine sr ?_;(conv=>whnf);refine sr ?_;(conv=>whnf);cases h;exact rfl
theorem slicesClone0C {N : Nat} (hN : N ≤ 1073741824)  {r : (List Int)} (h : slicesClone0 N = some r) :
    ACalls Tryz.prog 75 [.nils 1] [] fun e os => e = .ret (.d (.list 1 (List.map I r))) ∧ os = [] := by
  refine acalls_f (fresh := false) tt_ok dr_ok ⟨[], [], [], [], [], 0, []⟩ Tryz.func75 rfl Tryz.call75 rfl ?_
  unfold slicesClone0 at h
  (conv=>whnf);cases h;exact rfl
theorem slicesClone1C {N : Nat} (hN : N ≤ 1073741824) {s1 : List Int} {r : (List Int)} (h : slicesClone1 N s1 = some r) :
    ACalls Tryz.prog 75 [.nn 1 (List.map I s1)] [] fun e os => e = .ret (.d (.list 1 (List.map I r))) ∧ os = [] := by
  refine acalls_f (fresh := false) tt_ok dr_ok ⟨[], [], [], [], [], 0, []⟩ Tryz.func75 rfl Tryz.call75 rfl ?_
  unfold slicesClone1 at h
  (conv=>whnf);intro hd3;obtain ⟨l2, hx2, h⟩ := obind h;(conv=>whnf);refine sr ?_;(conv=>whnf);refine Side.mk ⟨rfl, rfl, rfl⟩ (Need.mk (app_need hN hx2 (by decide)) (Eqv.mk (List.map I l2) (app_map _ hx2) ?_));(conv=>whnf);intro hd4;(conv=>whnf);refine sr ?_;(conv=>whnf);cases h;exact rfl
theorem slicesCloneC {N : Nat} (hN : N ≤ 1073741824) {l : List Int} {r : (List Int)} (h : slicesClone N l = some r) :
    ACalls Tryz.prog 75 [.d (.list 1 (List.map I l))] [] fun e os => e = .ret (.d (.list 1 (List.map I r))) ∧ os = [] := by
  unfold slicesClone at h
  refine ACalls.nils_or (fun e => ?_) (slicesClone1C hN h)
  have e2 := List.map_eq_nil_iff.1 e
  subst e2
  refine slicesClone0C hN ?_
  rw [← h]
  simp [slicesClone0, slicesClone1, slc, app, idx]
theorem leagueLeagueOfC {N : Nat} (hN : N ≤ 1073741824) {l1 : LeagueLeague} {team1 : Int} {r : LeagueLeague × Int} (h : leagueLeagueOf N l1 team1 = some r) :
    ACalls Tryz.prog 112 [.d (.agg [I l1.fTeams, .list 5 (List.map LeagueGame.enc l1.fGames)]), .d (I team1)] [] fun e os => e = .ret (.d (.fn (.func 141) [] [.ref (.agg [I r.1.fTeams, .list 5 (List.map LeagueGame.enc r.1.fGames)]), .ref (.agg [I r.2])])) ∧ os = [] := by
  refine acalls_f (fresh := false) tt_ok dr_ok ⟨[2, 3], [], [], [], [], 0, []⟩ Tryz.func112 rfl Tryz.call112 rfl ?_
  unfold leagueLeagueOf at h
  (conv=>whnf);cases h;exact rfl
theorem leagueGameGivesC {N : Nat} (hN : N ≤ 1073741824) {g1 : LeagueGame} {r : Int × Int} (h : leagueGameGives N g1 = some r) :
    ACalls Tryz.prog 113 [.d (.agg [I g1.fA, I g1.fB, I g1.fPinsA, I g1.fPinsB, .bool g1.fOpen])] [] fun e os => e = .ret (.d (.tup [I r.1, I r.2])) ∧ os = [] := by
  refine acalls_f (fresh := false) tt_ok dr_ok ⟨[1], [], [], [], [], 0, []⟩ Tryz.func113 rfl Tryz.call113 rfl ?_
  unfold leagueGameGives at h
  (conv=>whnf);refine Br.mk (fun hc4 => ?_) (fun hc4 => ?_)
  ·replace h := ite_t hc4 h;(conv=>whnf);cases h;exact rfl
  ·replace h := ite_f hc4 h;(conv=>whnf);refine Br.mk (fun hc5 => ?_) (fun hc5 => ?_)
   ·replace h := ite_t hc5 h;(conv=>whnf);cases h;exact rfl
   ·replace h := ite_f hc5 h;(conv=>whnf);refine Br.mk (fun hc6 => ?_) (fun hc6 => ?_)
    ·replace h := ite_t hc6 h;(conv=>whnf);cases h;exact rfl
    ·replace h := ite_f hc6 h;(conv=>whnf);cases h;exact rfl
theorem leagueSideAllC {N : Nat} (hN : N ≤ 1073741824) {x1 : LeagueSide} {v1 : List Int} {r : Int} (h : leagueSideAll N x1 v1 = some r) :
    ACalls Tryz.prog 78 [.d (.agg [I x1.fOther, I x1.fPoints, I x1.fPins]), .d (.list 1 (List.map I v1))] [] fun e os => e = .ret (.d (I r)) ∧ os = [] := by
  refine acalls_f (fresh := false) tt_ok dr_ok ⟨[2], [], [], [], [], 0, []⟩ Tryz.func78 rfl Tryz.call78 rfl ?_
  unfold leagueSideAll at h
  (conv=>whnf);cases h;exact rfl
theorem leagueTableNumberV0C {N : Nat} (hN : N ≤ 1073741824) {t1 : LeagueTable} {team1 : Int} {group1 : List Int} {r : Int} (h : leagueTableNumberV0 N t1 team1 group1 = some r) :
    ACalls Tryz.prog 77 [.d (.agg [I t1.fLeague.fTeams, .list 5 (List.map LeagueGame.enc t1.fLeague.fGames)]), .d (.agg [.fn (.func 78) [] []]), .d (I team1), .d (.list 1 (List.map I group1))] [] fun e os => e = .ret (.d (I r)) ∧ os = [] := by
  refine acalls_f (fresh := false) tt_ok dr_ok ⟨[4, 5, 7], [], [], [], [1001], 0, []⟩ Tryz.func77 rfl Tryz.call77 rfl ?_
  unfold leagueTableNumberV0 at h
  (conv=>whnf);intro b2;obtain ⟨c11, hx69, h⟩ := obind h;(conv=>whnf);refine SeqG.mk Unit (fun y => [(8, .ptr 8 b2 0)]) (fun y => [(8, .cells b2 [.d (I c11)])]) (fun _ => True) ?_ ?_
  ·obtain ⟨⟨ra16, rb16⟩, hx71, hx69⟩ := obind hx69;(conv=>whnf);refine CallG.pure _ (leagueLeagueOfC hN hx71) ?_;(conv=>whnf);intro lp2 rc2;refine IterG.mk _ _ ⟨[], [], [], [], [4], 2000, []⟩ Tryz.func141 rfl Tryz.call141 rfl rfl ?_;(conv=>whnf);refine LnA.mk _ (List.length_map _) ?_;(conv=>whnf);refine LoopG.mk (Nat × (Int × Int × Int)) (fun y => [(0, .fn (.yield lp2) [] []), (2, .d (.ref (.agg [I rb16]))), (9, .d (.list 5 (List.map LeagueGame.enc ra16.fGames))), (10, .d (I y.2.1)), (11, .d (I y.2.2.1))]) (fun y => [(8, .cells b2 [.d (I y.2.2.2)]), (1000, .loop lp2 rc2 none)]) (fun y => loopN (fun rr x => leagueTableNumberV0_b1 N group1 ra16 rb16 rr x.1 x.2.1 x.2.2) y.1 y.2 = some c11) (fun y => y.1) (N, ((ra16.fGames.length : Int), 0, 0)) hx69 (Sub.eq rfl ?_ ?_) ?_
   ·(repeat ((conv=>whnf);refine nr ?_));exact trivial
   ·(conv=>whnf);refine no ?_;(conv=>whnf);refine no ?_;exact trivial
   ·rintro ⟨n2, ⟨x30, v28, c19⟩⟩ hl2;obtain ⟨n2, rfl, hl2⟩ := loopN_some hl2;replace hl2 : leagueTableNumberV0_b1 N group1 ra16 rb16 (loopN (fun rr x => leagueTableNumberV0_b1 N group1 ra16 rb16 rr x.1 x.2.1 x.2.2) n2) x30 v28 c19 = some c11 := hl2;rw [leagueTableNumberV0_b1] at hl2;(conv=>whnf);refine Br.mk (fun hc72 => ?_) (fun hc72 => ?_)
    ·replace hl2 := ite_t hc72 hl2;obtain ⟨x34, hx128, hl2⟩ := obind hl2;(conv=>whnf);refine Side.mk rfl ⟨_, idx_0 hx128, idx_map _ hx128, ?_⟩;(conv=>whnf);intro b92;(conv=>whnf);refine sr ?_;(conv=>whnf);refine sr ?_;obtain ⟨⟨ra28, rb28⟩, hx130, hl2⟩ := obind hl2;(conv=>whnf);refine CallG.pure _ (leagueGameGivesC hN hx130) ?_;obtain ⟨⟨v31, v32, c21⟩, hx134, hl2⟩ := obind hl2;(conv=>whnf)
     refine SeqG.mk Unit (fun y => [(0, .fn (.yield lp2) [] []), (2, .d (.ref (.agg [I rb16]))), (9, .d (.list 5 (List.map LeagueGame.enc ra16.fGames))), (10, .d (I x30)), (11, .d (I v28)), (37, .ptr 2005 b92 1), (38, .d (I x34.fB)), (39, .d (I rb16)), (40, .d (.bool v31)), (41, .d (.bool v32)), (52, .b false), (53, .b false)]) (fun y => [(2005, .cells b92 [.d (I x34.fA), .d (I x34.fB), .d (I x34.fPinsA), .d (I x34.fPinsB), .d (.bool x34.fOpen)]), (8, .cells b2 [.d (I c21)]), (1000, .loop lp2 rc2 none)]) (fun _ => True) ?_ ?_
     ·(conv=>whnf);refine sr ?_;(conv=>whnf);refine Br.mk (fun hc82 => ?_) (fun hc82 => ?_)
      ·replace hx134 := ite_t hc82 hx134;(conv=>whnf);refine sr ?_;(conv=>whnf);refine sr ?_;(conv=>whnf);refine sr ?_;(conv=>whnf);refine Side.mk ⟨rfl, rfl, rfl⟩ ?_;(conv=>whnf);intro b96;(conv=>whnf);refine sr ?_;obtain ⟨r70, hx135, hx134⟩ := obind hx134;(conv=>whnf);refine DrawG.mk (.take 0 (.take 1 (.take 2 (.take 3 (.take 4 (.alt 5 [1, 0] (.take 6 (.alt 7 [] .done .nil)) .nil)))))) (by kernel_rfl) ?_;(conv=>whnf);refine sr ?_;(conv=>whnf);refine sr ?_;(conv=>whnf);refine Both.mk ?_ trivial;(conv=>whnf);refine CallG.pure _ (leagueSideAllC hN hx135) ?_;(conv=>whnf);refine nl ?_;(conv=>whnf);refine sr ?_;(conv=>whnf);refine nl ?_;(conv=>whnf);refine Both.mk ?_ trivial;(conv=>whnf);refine sr ?_;(conv=>whnf);refine sr ?_;(conv=>whnf);refine Br.mk (fun hc83 => ?_) (fun hc83 => ?_)
       ·replace hx134 := ite_t hc83 hx134;(conv=>whnf);refine sr ?_;(conv=>whnf);refine sr ?_;(conv=>whnf);refine sr ?_;(conv=>whnf);refine Side.mk ⟨rfl, rfl, rfl⟩ ?_;(conv=>whnf);intro b97;(conv=>whnf);refine sr ?_;obtain ⟨r71, hx136, hx134⟩ := obind hx134;(conv=>whnf);refine DrawG.mk (.take 0 (.take 1 (.take 2 (.take 3 (.take 4 (.alt 5 [1, 0] (.take 6 (.alt 7 [] .done .nil)) .nil)))))) (by kernel_rfl) ?_;(conv=>whnf);refine sr ?_;(conv=>whnf);refine sr ?_;(conv=>whnf);refine Both.mk ?_ trivial;(conv=>whnf);refine CallG.pure _ (leagueSideAllC hN hx136) ?_;(conv=>whnf);refine nl ?_;(conv=>whnf);refine sr ?_;(conv=>whnf);refine nl ?_;(conv=>whnf);refine Both.mk ?_ trivial;(conv=>whnf);refine sr ?_;cases hx134;(conv=>whnf);refine ⟨(), trivial, Sub.eq rfl ?_ ?_⟩
        ·(repeat ((conv=>whnf);refine nr ?_));exact trivial
        ·(conv=>whnf);refine no ?_;(conv=>whnf);refine no ?_;(conv=>whnf);refine no ?_;exact trivial
       ·replace hx134 := ite_f hc83 hx134;cases hx134;(conv=>whnf);refine ⟨(), trivial, Sub.eq rfl ?_ ?_⟩
        ·(repeat ((conv=>whnf);refine nr ?_));exact trivial
        ·(conv=>whnf);refine no ?_;(conv=>whnf);refine no ?_;(conv=>whnf);refine no ?_;exact trivial
      ·replace hx134 := ite_f hc82 hx134;(conv=>whnf);refine sr ?_;(conv=>whnf);refine Br.mk (fun hc84 => ?_) (fun hc84 => ?_)
       ·replace hx134 := ite_t hc84 hx134;(conv=>whnf);refine sr ?_;(conv=>whnf);refine sr ?_;(conv=>whnf);refine sr ?_;(conv=>whnf);refine Side.mk ⟨rfl, rfl, rfl⟩ ?_;(conv=>whnf);intro b98;(conv=>whnf);refine sr ?_;obtain ⟨r72, hx137, hx134⟩ := obind hx134;(conv=>whnf);refine DrawG.mk (.take 0 (.take 1 (.take 2 (.take 3 (.take 4 (.alt 5 [1, 0] (.take 6 (.alt 7 [] .done .nil)) .nil)))))) (by kernel_rfl) ?_;(conv=>whnf);refine sr ?_;(conv=>whnf);refine sr ?_;(conv=>whnf);refine Both.mk ?_ trivial;(conv=>whnf);refine CallG.pure _ (leagueSideAllC hN hx137) ?_;(conv=>whnf);refine nl ?_;(conv=>whnf);refine sr ?_;(conv=>whnf);refine nl ?_;(conv=>whnf);refine Both.mk ?_ trivial;(conv=>whnf);refine sr ?_;cases hx134;(conv=>whnf);refine ⟨(), trivial, Sub.eq rfl ?_ ?_⟩
        ·(repeat ((conv=>whnf);refine nr ?_));exact trivial
        ·(conv=>whnf);refine no ?_;(conv=>whnf);refine no ?_;(conv=>whnf);refine no ?_;exact trivial
       ·replace hx134 := ite_f hc84 hx134;cases hx134;(conv=>whnf);refine ⟨(), trivial, Sub.eq rfl ?_ ?_⟩
        ·(repeat ((conv=>whnf);refine nr ?_));exact trivial
        ·(conv=>whnf);refine no ?_;(conv=>whnf);refine no ?_;(conv=>whnf);refine no ?_;exact trivial
     ·rintro _ _;(conv=>whnf);refine ⟨(n2, (x30, w64 (v28 + 1), c21)), hl2, Sub.eq rfl ?_ ?_, Nat.lt_succ_self _⟩
      ·(repeat ((conv=>whnf);refine nr ?_));exact trivial
      ·(conv=>whnf);refine no ?_;(conv=>whnf);refine no ?_;exact trivial
    ·replace hl2 := ite_f hc72 hl2;(conv=>whnf);refine Side.mk ⟨rfl, rfl⟩ ?_;cases hl2;(conv=>whnf);refine ⟨(), trivial, Sub.eq rfl ?_ ?_⟩
     ·(repeat ((conv=>whnf);refine nr ?_));exact trivial
     ·(conv=>whnf);refine no ?_;exact trivial
  ·rintro _ _;(conv=>whnf);refine sr ?_;(conv=>whnf);refine sr ?_;(conv=>whnf);refine sr ?_;(conv=>whnf);cases h;exact rfl
theorem leagueSideWonC {N : Nat} (hN : N ≤ 1073741824) {x1 : LeagueSide} {v1 : List Int} {r : Int} (h : leagueSideWon N x1 v1 = some r) :
    ACalls Tryz.prog 79 [.d (.agg [I x1.fOther, I x1.fPoints, I x1.fPins]), .d (.list 1 (List.map I v1))] [] fun e os => e = .ret (.d (I r)) ∧ os = [] := by
  refine acalls_f (fresh := false) tt_ok dr_ok ⟨[2], [], [], [], [], 0, []⟩ Tryz.func79 rfl Tryz.call79 rfl ?_
  unfold leagueSideWon at h
  (conv=>whnf);refine Need.mk (by decide) ?_;(conv=>whnf);cases h;exact rfl
theorem leagueTableNumberV1C {N : Nat} (hN : N ≤ 1073741824) {t1 : LeagueTable} {team1 : Int} {group1 : List Int} {r : Int} (h : leagueTableNumberV1 N t1 team1 group1 = some r) :
    ACalls Tryz.prog 77 [.d (.agg [I t1.fLeague.fTeams, .list 5 (List.map LeagueGame.enc t1.fLeague.fGames)]), .d (.agg [.fn (.func 79) [] []]), .d (I team1), .d (.list 1 (List.map I group1))] [] fun e os => e = .ret (.d (I r)) ∧ os = [] := by
  refine acalls_f (fresh := false) tt_ok dr_ok ⟨[4, 5, 7], [], [], [], [1001], 0, []⟩ Tryz.func77 rfl Tryz.call77 rfl ?_
  unfold leagueTableNumberV1 at h
  (conv=>whnf);intro b2;obtain ⟨c11, hx69, h⟩ := obind h;(conv=>whnf);refine SeqG.mk Unit (fun y => [(8, .ptr 8 b2 0)]) (fun y => [(8, .cells b2 [.d (I c11)])]) (fun _ => True) ?_ ?_
  ·obtain ⟨⟨ra16, rb16⟩, hx71, hx69⟩ := obind hx69;(conv=>whnf);refine CallG.pure _ (leagueLeagueOfC hN hx71) ?_;(conv=>whnf);intro lp2 rc2;refine IterG.mk _ _ ⟨[], [], [], [], [4], 2000, []⟩ Tryz.func141 rfl Tryz.call141 rfl rfl ?_;(conv=>whnf);refine LnA.mk _ (List.length_map _) ?_;(conv=>whnf);refine LoopG.mk (Nat × (Int × Int × Int)) (fun y => [(0, .fn (.yield lp2) [] []), (2, .d (.ref (.agg [I rb16]))), (9, .d (.list 5 (List.map LeagueGame.enc ra16.fGames))), (10, .d (I y.2.1)), (11, .d (I y.2.2.1))]) (fun y => [(8, .cells b2 [.d (I y.2.2.2)]), (1000, .loop lp2 rc2 none)]) (fun y => loopN (fun rr x => leagueTableNumberV1_b1 N group1 ra16 rb16 rr x.1 x.2.1 x.2.2) y.1 y.2 = some c11) (fun y => y.1) (N, ((ra16.fGames.length : Int), 0, 0)) hx69 (Sub.eq rfl ?_ ?_) ?_
   ·(repeat ((conv=>whnf);refine nr ?_));exact trivial
   ·(conv=>whnf);refine no ?_;(conv=>whnf);refine no ?_;exact trivial
   ·rintro ⟨n2, ⟨x30, v28, c19⟩⟩ hl2;obtain ⟨n2, rfl, hl2⟩ := loopN_some hl2;replace hl2 : leagueTableNumberV1_b1 N group1 ra16 rb16 (loopN (fun rr x => leagueTableNumberV1_b1 N group1 ra16 rb16 rr x.1 x.2.1 x.2.2) n2) x30 v28 c19 = some c11 := hl2;rw [leagueTableNumberV1_b1] at hl2;(conv=>whnf);refine Br.mk (fun hc72 => ?_) (fun hc72 => ?_)
    ·replace hl2 := ite_t hc72 hl2;obtain ⟨x34, hx128, hl2⟩ := obind hl2;(conv=>whnf);refine Side.mk rfl ⟨_, idx_0 hx128, idx_map _ hx128, ?_⟩;(conv=>whnf);intro b92;(conv=>whnf);refine sr ?_;(conv=>whnf);refine sr ?_;obtain ⟨⟨ra28, rb28⟩, hx130, hl2⟩ := obind hl2;(conv=>whnf);refine CallG.pure _ (leagueGameGivesC hN hx130) ?_;obtain ⟨⟨v31, v32, c21⟩, hx134, hl2⟩ := obind hl2;(conv=>whnf)
     refine SeqG.mk Unit (fun y => [(0, .fn (.yield lp2) [] []), (2, .d (.ref (.agg [I rb16]))), (9, .d (.list 5 (List.map LeagueGame.enc ra16.fGames))), (10, .d (I x30)), (11, .d (I v28)), (37, .ptr 2005 b92 1), (38, .d (I x34.fB)), (39, .d (I rb16)), (40, .d (.bool v31)), (41, .d (.bool v32)), (52, .b false), (53, .b false)]) (fun y => [(2005, .cells b92 [.d (I x34.fA), .d (I x34.fB), .d (I x34.fPinsA), .d (I x34.fPinsB), .d (.bool x34.fOpen)]), (8, .cells b2 [.d (I c21)]), (1000, .loop lp2 rc2 none)]) (fun _ => True) ?_ ?_
     ·(conv=>whnf);refine sr ?_;(conv=>whnf);refine Br.mk (fun hc82 => ?_) (fun hc82 => ?_)
      ·replace hx134 := ite_t hc82 hx134;(conv=>whnf);refine sr ?_;(conv=>whnf);refine sr ?_;(conv=>whnf);refine sr ?_;(conv=>whnf);refine Side.mk ⟨rfl, rfl, rfl⟩ ?_;(conv=>whnf);intro b96;(conv=>whnf);refine sr ?_;obtain ⟨r70, hx135, hx134⟩ := obind hx134;(conv=>whnf);refine DrawG.mk (.take 0 (.take 1 (.take 2 (.take 3 (.take 4 (.alt 5 [1, 0] (.take 6 (.alt 7 [] .done .nil)) .nil)))))) (by kernel_rfl) ?_;(conv=>whnf);refine sr ?_;(conv=>whnf);refine sr ?_;(conv=>whnf);refine Both.mk ?_ trivial;(conv=>whnf);refine CallG.pure _ (leagueSideWonC hN hx135) ?_;(conv=>whnf);refine nl ?_;(conv=>whnf);refine sr ?_;(conv=>whnf);refine nl ?_;(conv=>whnf);refine Both.mk ?_ trivial;(conv=>whnf);refine sr ?_;(conv=>whnf);refine sr ?_;(conv=>whnf);refine Br.mk (fun hc83 => ?_) (fun hc83 => ?_)
       ·replace hx134 := ite_t hc83 hx134;(conv=>whnf);refine sr ?_;(conv=>whnf);refine sr ?_;(conv=>whnf);refine sr ?_;(conv=>whnf);refine Side.mk ⟨rfl, rfl, rfl⟩ ?_;(conv=>whnf);intro b97;(conv=>whnf);refine sr ?_;obtain ⟨r71, hx136, hx134⟩ := obind hx134;(conv=>whnf);refine DrawG.mk (.take 0 (.take 1 (.take 2 (.take 3 (.take 4 (.alt 5 [1, 0] (.take 6 (.alt 7 [] .done .nil)) .nil)))))) (by kernel_rfl) ?_;(conv=>whnf);refine sr ?_;(conv=>whnf);refine sr ?_;(conv=>whnf);refine Both.mk ?_ trivial;(conv=>whnf);refine CallG.pure _ (leagueSideWonC hN hx136) ?_;(conv=>whnf);refine nl ?_;(conv=>whnf);refine sr ?_;(conv=>whnf);refine nl ?_;(conv=>whnf);refine Both.mk ?_ trivial;(conv=>whnf);refine sr ?_;cases hx134;(conv=>whnf);refine ⟨(), trivial, Sub.eq rfl ?_ ?_⟩
        ·(repeat ((conv=>whnf);refine nr ?_));exact trivial
        ·(conv=>whnf);refine no ?_;(conv=>whnf);refine no ?_;(conv=>whnf);refine no ?_;exact trivial
       ·replace hx134 := ite_f hc83 hx134;cases hx134;(conv=>whnf);refine ⟨(), trivial, Sub.eq rfl ?_ ?_⟩
        ·(repeat ((conv=>whnf);refine nr ?_));exact trivial
        ·(conv=>whnf);refine no ?_;(conv=>whnf);refine no ?_;(conv=>whnf);refine no ?_;exact trivial
      ·replace hx134 := ite_f hc82 hx134;(conv=>whnf);refine sr ?_;(conv=>whnf);refine Br.mk (fun hc84 => ?_) (fun hc84 => ?_)
       ·replace hx134 := ite_t hc84 hx134;(conv=>whnf);refine sr ?_;(conv=>whnf);refine sr ?_;(conv=>whnf);refine sr ?_;(conv=>whnf);refine Side.mk ⟨rfl, rfl, rfl⟩ ?_;(conv=>whnf);intro b98;(conv=>whnf);refine sr ?_;obtain ⟨r72, hx137, hx134⟩ := obind hx134;(conv=>whnf);refine DrawG.mk (.take 0 (.take 1 (.take 2 (.take 3 (.take 4 (.alt 5 [1, 0] (.take 6 (.alt 7 [] .done .nil)) .nil)))))) (by kernel_rfl) ?_;(conv=>whnf);refine sr ?_;(conv=>whnf);refine sr ?_;(conv=>whnf);refine Both.mk ?_ trivial;(conv=>whnf);refine CallG.pure _ (leagueSideWonC hN hx137) ?_;(conv=>whnf);refine nl ?_;(conv=>whnf);refine sr ?_;(conv=>whnf);refine nl ?_;(conv=>whnf);refine Both.mk ?_ trivial;(conv=>whnf);refine sr ?_;cases hx134;(conv=>whnf);refine ⟨(), trivial, Sub.eq rfl ?_ ?_⟩
        ·(repeat ((conv=>whnf);refine nr ?_));exact trivial
        ·(conv=>whnf);refine no ?_;(conv=>whnf);refine no ?_;(conv=>whnf);refine no ?_;exact trivial
       ·replace hx134 := ite_f hc84 hx134;cases hx134;(conv=>whnf);refine ⟨(), trivial, Sub.eq rfl ?_ ?_⟩
        ·(repeat ((conv=>whnf);refine nr ?_));exact trivial
        ·(conv=>whnf);refine no ?_;(conv=>whnf);refine no ?_;(conv=>whnf);refine no ?_;exact trivial
     ·rintro _ _;(conv=>whnf);refine ⟨(n2, (x30, w64 (v28 + 1), c21)), hl2, Sub.eq rfl ?_ ?_, Nat.lt_succ_self _⟩
      ·(repeat ((conv=>whnf);refine nr ?_));exact trivial
      ·(conv=>whnf);refine no ?_;(conv=>whnf);refine no ?_;exact trivial
    ·replace hl2 := ite_f hc72 hl2;(conv=>whnf);refine Side.mk ⟨rfl, rfl⟩ ?_;cases hl2;(conv=>whnf);refine ⟨(), trivial, Sub.eq rfl ?_ ?_⟩
     ·(repeat ((conv=>whnf);refine nr ?_));exact trivial
     ·(conv=>whnf);refine no ?_;exact trivial
  ·rintro _ _;(conv=>whnf);refine sr ?_;(conv=>whnf);refine sr ?_;(conv=>whnf);refine sr ?_;(conv=>whnf);cases h;exact rfl
theorem slicesIndexC {N : Nat} (hN : N ≤ 1073741824) {s1 : List Int} {v1 : Int} {r : Int} (h : slicesIndex N s1 v1 = some r) :
    ACalls Tryz.prog 98 [.d (.list 1 (List.map I s1)), .d (I v1)] [] fun e os => e = .ret (.d (I r)) ∧ os = [] := by
  refine acalls_f (fresh := false) tt_ok dr_ok ⟨[], [], [], [], [1001], 0, []⟩ Tryz.func98 rfl Tryz.call98 rfl ?_
  unfold slicesIndex at h
  (conv=>whnf);refine SeqG.mk Unit (fun y => []) (fun y => []) (fun y => slicesIndex_k1 N = some r) ?_ ?_
  ·(conv=>whnf);refine LnA.mk _ (List.length_map _) ?_;(conv=>whnf);refine LoopG.mk (Nat × (Int × Int)) (fun y => [(0, .d (.list 1 (List.map I s1))), (1, .d (I v1)), (7, .d (I y.2.1)), (8, .d (I y.2.2))]) (fun y => []) (fun y => loopN (fun rr x => slicesIndex_b2 N s1 v1 rr x.1 x.2) y.1 y.2 = some r) (fun y => y.1) (N, ((s1.length : Int), 0)) h (Sub.eq rfl ?_ ?_) ?_
   ·(repeat ((conv=>whnf);refine nr ?_));exact trivial
   ·exact trivial
   ·rintro ⟨n2, ⟨v18, v19⟩⟩ hl2;obtain ⟨n2, rfl, hl2⟩ := loopN_some hl2;replace hl2 : slicesIndex_b2 N s1 v1 (loopN (fun rr x => slicesIndex_b2 N s1 v1 rr x.1 x.2) n2) v18 v19 = some r := hl2;rw [slicesIndex_b2] at hl2;(conv=>whnf);refine Br.mk (fun hc22 => ?_) (fun hc22 => ?_)
    ·replace hl2 := ite_t hc22 hl2;obtain ⟨x24, hx24, hl2⟩ := obind hl2;(conv=>whnf);refine Side.mk rfl ⟨_, idx_0 hx24, idx_map _ hx24, ?_⟩;(conv=>whnf);refine Br.mk (fun hc24 => ?_) (fun hc24 => ?_)
     ·replace hl2 := ite_t hc24 hl2;(conv=>whnf);cases hl2;exact rfl
     ·replace hl2 := ite_f hc24 hl2;(conv=>whnf);refine ⟨(n2, (v18, w64 (v19 + 1))), hl2, Sub.eq rfl ?_ ?_, Nat.lt_succ_self _⟩
      ·(repeat ((conv=>whnf);refine nr ?_));exact trivial
      ·exact trivial
    ·replace hl2 := ite_f hc22 hl2;(conv=>whnf);refine ⟨(), hl2, Sub.eq rfl ?_ ?_⟩
     ·(repeat ((conv=>whnf);refine nr ?_));exact trivial
     ·exact trivial
  ·clear h;rintro _ h;unfold slicesIndex_k1 at h;(conv=>whnf);cases h;exact rfl
theorem slicesContainsC {N : Nat} (hN : N ≤ 1073741824) {s1 : List Int} {v1 : Int} {r : Bool} (h : slicesContains N s1 v1 = some r) :
    ACalls Tryz.prog 59 [.d (.list 1 (List.map I s1)), .d (I v1)] [] fun e os => e = .ret (.d (.bool r)) ∧ os = [] := by
  refine acalls_f (fresh := false) tt_ok dr_ok ⟨[], [], [], [], [], 0, []⟩ Tryz.func59 rfl Tryz.call59 rfl ?_
  unfold slicesContains at h
  obtain ⟨r2, hx2, h⟩ := obind h;(conv=>whnf);refine CallG.pure _ (slicesIndexC hN hx2) ?_;(conv=>whnf);cases h;exact rfl
theorem leagueSideDirectC {N : Nat} (hN : N ≤ 1073741824) {x1 : LeagueSide} {group1 : List Int} {r : Int} (h : leagueSideDirect N x1 group1 = some r) :
    ACalls Tryz.prog 80 [.d (.agg [I x1.fOther, I x1.fPoints, I x1.fPins]), .d (.list 1 (List.map I group1))] [] fun e os => e = .ret (.d (I r)) ∧ os = [] := by
  refine acalls_f (fresh := false) tt_ok dr_ok ⟨[2], [], [], [], [], 0, []⟩ Tryz.func80 rfl Tryz.call80 rfl ?_
  unfold leagueSideDirect at h
  obtain ⟨r4, hx4, h⟩ := obind h;(conv=>whnf);refine CallG.pure _ (slicesContainsC hN hx4) ?_;(conv=>whnf);refine Br.mk (fun hc2 => ?_) (fun hc2 => ?_)
  ·replace h := ite_t hc2 h;(conv=>whnf);cases h;exact rfl
  ·replace h := ite_f hc2 h;(conv=>whnf);cases h;exact rfl
theorem leagueTableNumberV2C {N : Nat} (hN : N ≤ 1073741824) {t1 : LeagueTable} {team1 : Int} {group1 : List Int} {r : Int} (h : leagueTableNumberV2 N t1 team1 group1 = some r) :
    ACalls Tryz.prog 77 [.d (.agg [I t1.fLeague.fTeams, .list 5 (List.map LeagueGame.enc t1.fLeague.fGames)]), .d (.agg [.fn (.func 80) [] []]), .d (I team1), .d (.list 1 (List.map I group1))] [] fun e os => e = .ret (.d (I r)) ∧ os = [] := by
  refine acalls_f (fresh := false) tt_ok dr_ok ⟨[4, 5, 7], [], [], [], [1001], 0, []⟩ Tryz.func77 rfl Tryz.call77 rfl ?_
  unfold leagueTableNumberV2 at h
  (conv=>whnf);intro b2;obtain ⟨c11, hx69, h⟩ := obind h;(conv=>whnf);refine SeqG.mk Unit (fun y => [(8, .ptr 8 b2 0)]) (fun y => [(8, .cells b2 [.d (I c11)])]) (fun _ => True) ?_ ?_
  ·obtain ⟨⟨ra16, rb16⟩, hx71, hx69⟩ := obind hx69;(conv=>whnf);refine CallG.pure _ (leagueLeagueOfC hN hx71) ?_;(conv=>whnf);intro lp2 rc2;refine IterG.mk _ _ ⟨[], [], [], [], [4], 2000, []⟩ Tryz.func141 rfl Tryz.call141 rfl rfl ?_;(conv=>whnf);refine LnA.mk _ (List.length_map _) ?_;(conv=>whnf);refine LoopG.mk (Nat × (Int × Int × Int)) (fun y => [(0, .fn (.yield lp2) [] []), (2, .d (.ref (.agg [I rb16]))), (9, .d (.list 5 (List.map LeagueGame.enc ra16.fGames))), (10, .d (I y.2.1)), (11, .d (I y.2.2.1))]) (fun y => [(8, .cells b2 [.d (I y.2.2.2)]), (1000, .loop lp2 rc2 none)]) (fun y => loopN (fun rr x => leagueTableNumberV2_b1 N group1 ra16 rb16 rr x.1 x.2.1 x.2.2) y.1 y.2 = some c11) (fun y => y.1) (N, ((ra16.fGames.length : Int), 0, 0)) hx69 (Sub.eq rfl ?_ ?_) ?_
   ·(repeat ((conv=>whnf);refine nr ?_));exact trivial
   ·(conv=>whnf);refine no ?_;(conv=>whnf);refine no ?_;exact trivial
   ·rintro ⟨n2, ⟨x30, v28, c19⟩⟩ hl2;obtain ⟨n2, rfl, hl2⟩ := loopN_some hl2;replace hl2 : leagueTableNumberV2_b1 N group1 ra16 rb16 (loopN (fun rr x => leagueTableNumberV2_b1 N group1 ra16 rb16 rr x.1 x.2.1 x.2.2) n2) x30 v28 c19 = some c11 := hl2;rw [leagueTableNumberV2_b1] at hl2;(conv=>whnf);refine Br.mk (fun hc72 => ?_) (fun hc72 => ?_)
    ·replace hl2 := ite_t hc72 hl2;obtain ⟨x34, hx128, hl2⟩ := obind hl2;(conv=>whnf);refine Side.mk rfl ⟨_, idx_0 hx128, idx_map _ hx128, ?_⟩;(conv=>whnf);intro b92;(conv=>whnf);refine sr ?_;(conv=>whnf);refine sr ?_;obtain ⟨⟨ra28, rb28⟩, hx130, hl2⟩ := obind hl2;(conv=>whnf);refine CallG.pure _ (leagueGameGivesC hN hx130) ?_;obtain ⟨⟨v31, v32, c21⟩, hx134, hl2⟩ := obind hl2;(conv=>whnf)
     refine SeqG.mk Unit (fun y => [(0, .fn (.yield lp2) [] []), (2, .d (.ref (.agg [I rb16]))), (9, .d (.list 5 (List.map LeagueGame.enc ra16.fGames))), (10, .d (I x30)), (11, .d (I v28)), (37, .ptr 2005 b92 1), (38, .d (I x34.fB)), (39, .d (I rb16)), (40, .d (.bool v31)), (41, .d (.bool v32)), (52, .b false), (53, .b false)]) (fun y => [(2005, .cells b92 [.d (I x34.fA), .d (I x34.fB), .d (I x34.fPinsA), .d (I x34.fPinsB), .d (.bool x34.fOpen)]), (8, .cells b2 [.d (I c21)]), (1000, .loop lp2 rc2 none)]) (fun _ => True) ?_ ?_
     ·(conv=>whnf);refine sr ?_;(conv=>whnf);refine Br.mk (fun hc82 => ?_) (fun hc82 => ?_)
      ·replace hx134 := ite_t hc82 hx134;(conv=>whnf);refine sr ?_;(conv=>whnf);refine sr ?_;(conv=>whnf);refine sr ?_;(conv=>whnf);refine Side.mk ⟨rfl, rfl, rfl⟩ ?_;(conv=>whnf);intro b96;(conv=>whnf);refine sr ?_;obtain ⟨r70, hx135, hx134⟩ := obind hx134;(conv=>whnf);refine DrawG.mk (.take 0 (.take 1 (.take 2 (.take 3 (.take 4 (.alt 5 [1, 0] (.take 6 (.alt 7 [] .done .nil)) .nil)))))) (by kernel_rfl) ?_;(conv=>whnf);refine sr ?_;(conv=>whnf);refine sr ?_;(conv=>whnf);refine Both.mk ?_ trivial;(conv=>whnf);refine CallG.pure _ (leagueSideDirectC hN hx135) ?_;(conv=>whnf);refine nl ?_;(conv=>whnf);refine sr ?_;(conv=>whnf);refine nl ?_;(conv=>whnf);refine Both.mk ?_ trivial;(conv=>whnf);refine sr ?_;(conv=>whnf);refine sr ?_;(conv=>whnf);refine Br.mk (fun hc83 => ?_) (fun hc83 => ?_)
       ·replace hx134 := ite_t hc83 hx134;(conv=>whnf);refine sr ?_;(conv=>whnf);refine sr ?_;(conv=>whnf);refine sr ?_;(conv=>whnf);refine Side.mk ⟨rfl, rfl, rfl⟩ ?_;(conv=>whnf);intro b97;(conv=>whnf);refine sr ?_;obtain ⟨r71, hx136, hx134⟩ := obind hx134;(conv=>whnf);refine DrawG.mk (.take 0 (.take 1 (.take 2 (.take 3 (.take 4 (.alt 5 [1, 0] (.take 6 (.alt 7 [] .done .nil)) .nil)))))) (by kernel_rfl) ?_;(conv=>whnf);refine sr ?_;(conv=>whnf);refine sr ?_;(conv=>whnf);refine Both.mk ?_ trivial;(conv=>whnf);refine CallG.pure _ (leagueSideDirectC hN hx136) ?_;(conv=>whnf);refine nl ?_;(conv=>whnf);refine sr ?_;(conv=>whnf);refine nl ?_;(conv=>whnf);refine Both.mk ?_ trivial;(conv=>whnf);refine sr ?_;cases hx134;(conv=>whnf);refine ⟨(), trivial, Sub.eq rfl ?_ ?_⟩
        ·(repeat ((conv=>whnf);refine nr ?_));exact trivial
        ·(conv=>whnf);refine no ?_;(conv=>whnf);refine no ?_;(conv=>whnf);refine no ?_;exact trivial
       ·replace hx134 := ite_f hc83 hx134;cases hx134;(conv=>whnf);refine ⟨(), trivial, Sub.eq rfl ?_ ?_⟩
        ·(repeat ((conv=>whnf);refine nr ?_));exact trivial
        ·(conv=>whnf);refine no ?_;(conv=>whnf);refine no ?_;(conv=>whnf);refine no ?_;exact trivial
      ·replace hx134 := ite_f hc82 hx134;(conv=>whnf);refine sr ?_;(conv=>whnf);refine Br.mk (fun hc84 => ?_) (fun hc84 => ?_)
       ·replace hx134 := ite_t hc84 hx134;(conv=>whnf);refine sr ?_;(conv=>whnf);refine sr ?_;(conv=>whnf);refine sr ?_;(conv=>whnf);refine Side.mk ⟨rfl, rfl, rfl⟩ ?_;(conv=>whnf);intro b98;(conv=>whnf);refine sr ?_;obtain ⟨r72, hx137, hx134⟩ := obind hx134;(conv=>whnf);refine DrawG.mk (.take 0 (.take 1 (.take 2 (.take 3 (.take 4 (.alt 5 [1, 0] (.take 6 (.alt 7 [] .done .nil)) .nil)))))) (by kernel_rfl) ?_;(conv=>whnf);refine sr ?_;(conv=>whnf);refine sr ?_;(conv=>whnf);refine Both.mk ?_ trivial;(conv=>whnf);refine CallG.pure _ (leagueSideDirectC hN hx137) ?_;(conv=>whnf);refine nl ?_;(conv=>whnf);refine sr ?_;(conv=>whnf);refine nl ?_;(conv=>whnf);refine Both.mk ?_ trivial;(conv=>whnf);refine sr ?_;cases hx134;(conv=>whnf);refine ⟨(), trivial, Sub.eq rfl ?_ ?_⟩
        ·(repeat ((conv=>whnf);refine nr ?_));exact trivial
        ·(conv=>whnf);refine no ?_;(conv=>whnf);refine no ?_;(conv=>whnf);refine no ?_;exact trivial
       ·replace hx134 := ite_f hc84 hx134;cases hx134;(conv=>whnf);refine ⟨(), trivial, Sub.eq rfl ?_ ?_⟩
        ·(repeat ((conv=>whnf);refine nr ?_));exact trivial
        ·(conv=>whnf);refine no ?_;(conv=>whnf);refine no ?_;(conv=>whnf);refine no ?_;exact trivial
     ·rintro _ _;(conv=>whnf);refine ⟨(n2, (x30, w64 (v28 + 1), c21)), hl2, Sub.eq rfl ?_ ?_, Nat.lt_succ_self _⟩
      ·(repeat ((conv=>whnf);refine nr ?_));exact trivial
      ·(conv=>whnf);refine no ?_;(conv=>whnf);refine no ?_;exact trivial
    ·replace hl2 := ite_f hc72 hl2;(conv=>whnf);refine Side.mk ⟨rfl, rfl⟩ ?_;cases hl2;(conv=>whnf);refine ⟨(), trivial, Sub.eq rfl ?_ ?_⟩
     ·(repeat ((conv=>whnf);refine nr ?_));exact trivial
     ·(conv=>whnf);refine no ?_;exact trivial
  ·rintro _ _;(conv=>whnf);refine sr ?_;(conv=>whnf);refine sr ?_;(conv=>whnf);refine sr ?_;(conv=>whnf);cases h;exact rfl
theorem leagueSideFelledC {N : Nat} (hN : N ≤ 1073741824) {x1 : LeagueSide} {v1 : List Int} {r : Int} (h : leagueSideFelled N x1 v1 = some r) :
    ACalls Tryz.prog 81 [.d (.agg [I x1.fOther, I x1.fPoints, I x1.fPins]), .d (.list 1 (List.map I v1))] [] fun e os => e = .ret (.d (I r)) ∧ os = [] := by
  refine acalls_f (fresh := false) tt_ok dr_ok ⟨[2], [], [], [], [], 0, []⟩ Tryz.func81 rfl Tryz.call81 rfl ?_
  unfold leagueSideFelled at h
  (conv=>whnf);cases h;exact rfl
theorem leagueTableNumberV3C {N : Nat} (hN : N ≤ 1073741824) {t1 : LeagueTable} {team1 : Int} {group1 : List Int} {r : Int} (h : leagueTableNumberV3 N t1 team1 group1 = some r) :
    ACalls Tryz.prog 77 [.d (.agg [I t1.fLeague.fTeams, .list 5 (List.map LeagueGame.enc t1.fLeague.fGames)]), .d (.agg [.fn (.func 81) [] []]), .d (I team1), .d (.list 1 (List.map I group1))] [] fun e os => e = .ret (.d (I r)) ∧ os = [] := by
  refine acalls_f (fresh := false) tt_ok dr_ok ⟨[4, 5, 7], [], [], [], [1001], 0, []⟩ Tryz.func77 rfl Tryz.call77 rfl ?_
  unfold leagueTableNumberV3 at h
  (conv=>whnf);intro b2;obtain ⟨c11, hx69, h⟩ := obind h;(conv=>whnf);refine SeqG.mk Unit (fun y => [(8, .ptr 8 b2 0)]) (fun y => [(8, .cells b2 [.d (I c11)])]) (fun _ => True) ?_ ?_
  ·obtain ⟨⟨ra16, rb16⟩, hx71, hx69⟩ := obind hx69;(conv=>whnf);refine CallG.pure _ (leagueLeagueOfC hN hx71) ?_;(conv=>whnf);intro lp2 rc2;refine IterG.mk _ _ ⟨[], [], [], [], [4], 2000, []⟩ Tryz.func141 rfl Tryz.call141 rfl rfl ?_;(conv=>whnf);refine LnA.mk _ (List.length_map _) ?_;(conv=>whnf);refine LoopG.mk (Nat × (Int × Int × Int)) (fun y => [(0, .fn (.yield lp2) [] []), (2, .d (.ref (.agg [I rb16]))), (9, .d (.list 5 (List.map LeagueGame.enc ra16.fGames))), (10, .d (I y.2.1)), (11, .d (I y.2.2.1))]) (fun y => [(8, .cells b2 [.d (I y.2.2.2)]), (1000, .loop lp2 rc2 none)]) (fun y => loopN (fun rr x => leagueTableNumberV3_b1 N group1 ra16 rb16 rr x.1 x.2.1 x.2.2) y.1 y.2 = some c11) (fun y => y.1) (N, ((ra16.fGames.length : Int), 0, 0)) hx69 (Sub.eq rfl ?_ ?_) ?_
   ·(repeat ((conv=>whnf);refine nr ?_));exact trivial
   ·(conv=>whnf);refine no ?_;(conv=>whnf);refine no ?_;exact trivial
   ·rintro ⟨n2, ⟨x30, v28, c19⟩⟩ hl2;obtain ⟨n2, rfl, hl2⟩ := loopN_some hl2;replace hl2 : leagueTableNumberV3_b1 N group1 ra16 rb16 (loopN (fun rr x => leagueTableNumberV3_b1 N group1 ra16 rb16 rr x.1 x.2.1 x.2.2) n2) x30 v28 c19 = some c11 := hl2;rw [leagueTableNumberV3_b1] at hl2;(conv=>whnf);refine Br.mk (fun hc72 => ?_) (fun hc72 => ?_)
    ·replace hl2 := ite_t hc72 hl2;obtain ⟨x34, hx128, hl2⟩ := obind hl2;(conv=>whnf);refine Side.mk rfl ⟨_, idx_0 hx128, idx_map _ hx128, ?_⟩;(conv=>whnf);intro b92;(conv=>whnf);refine sr ?_;(conv=>whnf);refine sr ?_;obtain ⟨⟨ra28, rb28⟩, hx130, hl2⟩ := obind hl2;(conv=>whnf);refine CallG.pure _ (leagueGameGivesC hN hx130) ?_;obtain ⟨⟨v31, v32, c21⟩, hx134, hl2⟩ := obind hl2;(conv=>whnf)
     refine SeqG.mk Unit (fun y => [(0, .fn (.yield lp2) [] []), (2, .d (.ref (.agg [I rb16]))), (9, .d (.list 5 (List.map LeagueGame.enc ra16.fGames))), (10, .d (I x30)), (11, .d (I v28)), (37, .ptr 2005 b92 1), (38, .d (I x34.fB)), (39, .d (I rb16)), (40, .d (.bool v31)), (41, .d (.bool v32)), (52, .b false), (53, .b false)]) (fun y => [(2005, .cells b92 [.d (I x34.fA), .d (I x34.fB), .d (I x34.fPinsA), .d (I x34.fPinsB), .d (.bool x34.fOpen)]), (8, .cells b2 [.d (I c21)]), (1000, .loop lp2 rc2 none)]) (fun _ => True) ?_ ?_
     ·(conv=>whnf);refine sr ?_;(conv=>whnf);refine Br.mk (fun hc82 => ?_) (fun hc82 => ?_)
      ·replace hx134 := ite_t hc82 hx134;(conv=>whnf);refine sr ?_;(conv=>whnf);refine sr ?_;(conv=>whnf);refine sr ?_;(conv=>whnf);refine Side.mk ⟨rfl, rfl, rfl⟩ ?_;(conv=>whnf);intro b96;(conv=>whnf);refine sr ?_;obtain ⟨r70, hx135, hx134⟩ := obind hx134;(conv=>whnf);refine DrawG.mk (.take 0 (.take 1 (.take 2 (.take 3 (.take 4 (.alt 5 [1, 0] (.take 6 (.alt 7 [] .done .nil)) .nil)))))) (by kernel_rfl) ?_;(conv=>whnf);refine sr ?_;(conv=>whnf);refine sr ?_;(conv=>whnf);refine Both.mk ?_ trivial;(conv=>whnf);refine CallG.pure _ (leagueSideFelledC hN hx135) ?_;(conv=>whnf);refine nl ?_;(conv=>whnf);refine sr ?_;(conv=>whnf);refine nl ?_;(conv=>whnf);refine Both.mk ?_ trivial;(conv=>whnf);refine sr ?_;(conv=>whnf);refine sr ?_;(conv=>whnf);refine Br.mk (fun hc83 => ?_) (fun hc83 => ?_)
       ·replace hx134 := ite_t hc83 hx134;(conv=>whnf);refine sr ?_;(conv=>whnf);refine sr ?_;(conv=>whnf);refine sr ?_;(conv=>whnf);refine Side.mk ⟨rfl, rfl, rfl⟩ ?_;(conv=>whnf);intro b97;(conv=>whnf);refine sr ?_;obtain ⟨r71, hx136, hx134⟩ := obind hx134;(conv=>whnf);refine DrawG.mk (.take 0 (.take 1 (.take 2 (.take 3 (.take 4 (.alt 5 [1, 0] (.take 6 (.alt 7 [] .done .nil)) .nil)))))) (by kernel_rfl) ?_;(conv=>whnf);refine sr ?_;(conv=>whnf);refine sr ?_;(conv=>whnf);refine Both.mk ?_ trivial;(conv=>whnf);refine CallG.pure _ (leagueSideFelledC hN hx136) ?_;(conv=>whnf);refine nl ?_;(conv=>whnf);refine sr ?_;(conv=>whnf);refine nl ?_;(conv=>whnf);refine Both.mk ?_ trivial;(conv=>whnf);refine sr ?_;cases hx134;(conv=>whnf);refine ⟨(), trivial, Sub.eq rfl ?_ ?_⟩
        ·(repeat ((conv=>whnf);refine nr ?_));exact trivial
        ·(conv=>whnf);refine no ?_;(conv=>whnf);refine no ?_;(conv=>whnf);refine no ?_;exact trivial
       ·replace hx134 := ite_f hc83 hx134;cases hx134;(conv=>whnf);refine ⟨(), trivial, Sub.eq rfl ?_ ?_⟩
        ·(repeat ((conv=>whnf);refine nr ?_));exact trivial
        ·(conv=>whnf);refine no ?_;(conv=>whnf);refine no ?_;(conv=>whnf);refine no ?_;exact trivial
      ·replace hx134 := ite_f hc82 hx134;(conv=>whnf);refine sr ?_;(conv=>whnf);refine Br.mk (fun hc84 => ?_) (fun hc84 => ?_)
       ·replace hx134 := ite_t hc84 hx134;(conv=>whnf);refine sr ?_;(conv=>whnf);refine sr ?_;(conv=>whnf);refine sr ?_;(conv=>whnf);refine Side.mk ⟨rfl, rfl, rfl⟩ ?_;(conv=>whnf);intro b98;(conv=>whnf);refine sr ?_;obtain ⟨r72, hx137, hx134⟩ := obind hx134;(conv=>whnf);refine DrawG.mk (.take 0 (.take 1 (.take 2 (.take 3 (.take 4 (.alt 5 [1, 0] (.take 6 (.alt 7 [] .done .nil)) .nil)))))) (by kernel_rfl) ?_;(conv=>whnf);refine sr ?_;(conv=>whnf);refine sr ?_;(conv=>whnf);refine Both.mk ?_ trivial;(conv=>whnf);refine CallG.pure _ (leagueSideFelledC hN hx137) ?_;(conv=>whnf);refine nl ?_;(conv=>whnf);refine sr ?_;(conv=>whnf);refine nl ?_;(conv=>whnf);refine Both.mk ?_ trivial;(conv=>whnf);refine sr ?_;cases hx134;(conv=>whnf);refine ⟨(), trivial, Sub.eq rfl ?_ ?_⟩
        ·(repeat ((conv=>whnf);refine nr ?_));exact trivial
        ·(conv=>whnf);refine no ?_;(conv=>whnf);refine no ?_;(conv=>whnf);refine no ?_;exact trivial
       ·replace hx134 := ite_f hc84 hx134;cases hx134;(conv=>whnf);refine ⟨(), trivial, Sub.eq rfl ?_ ?_⟩
        ·(repeat ((conv=>whnf);refine nr ?_));exact trivial
        ·(conv=>whnf);refine no ?_;(conv=>whnf);refine no ?_;(conv=>whnf);refine no ?_;exact trivial
     ·rintro _ _;(conv=>whnf);refine ⟨(n2, (x30, w64 (v28 + 1), c21)), hl2, Sub.eq rfl ?_ ?_, Nat.lt_succ_self _⟩
      ·(repeat ((conv=>whnf);refine nr ?_));exact trivial
      ·(conv=>whnf);refine no ?_;(conv=>whnf);refine no ?_;exact trivial
    ·replace hl2 := ite_f hc72 hl2;(conv=>whnf);refine Side.mk ⟨rfl, rfl⟩ ?_;cases hl2;(conv=>whnf);refine ⟨(), trivial, Sub.eq rfl ?_ ?_⟩
     ·(repeat ((conv=>whnf);refine nr ?_));exact trivial
     ·(conv=>whnf);refine no ?_;exact trivial
  ·rintro _ _;(conv=>whnf);refine sr ?_;(conv=>whnf);refine sr ?_;(conv=>whnf);refine sr ?_;(conv=>whnf);cases h;exact rfl
theorem leagueTableNumberC {N : Nat} (hN : N ≤ 1073741824) {a0 : LeagueTable} {a1 : LeagueRuled} {a2 : Int} {a3 : List Int} {r : Int} (h : leagueTableNumber N a0 a1 a2 a3 = some r) :
    ACalls Tryz.prog 77 [.d (.agg [I a0.fLeague.fTeams, .list 5 (List.map LeagueGame.enc a0.fLeague.fGames)]), .d (.agg [.fn (.func (fnv116 a1.fOf)) [] []]), .d (I a2), .d (.list 1 (List.map I a3))] [] fun e os => e = .ret (.d (I r)) ∧ os = [] := by
  obtain ⟨z⟩ := a1
  unfold leagueTableNumber at h
  by_cases h0 : z = 0
  · subst h0
    rw [if_pos rfl] at h
    exact leagueTableNumberV0C hN h
  rw [if_neg h0] at h
  by_cases h1 : z = 1
  · subst h1
    rw [if_pos rfl] at h
    exact leagueTableNumberV1C hN h
  rw [if_neg h1] at h
  by_cases h2 : z = 2
  · subst h2
    rw [if_pos rfl] at h
    exact leagueTableNumberV2C hN h
  rw [if_neg h2] at h
  by_cases h3 : z = 3
  · subst h3
    rw [if_pos rfl] at h
    exact leagueTableNumberV3C hN h
  rw [if_neg h3] at h
  cases h
theorem slicesMaxC {N : Nat} (hN : N ≤ 1073741824) {x1 : List Int} {r : Int} (h : slicesMax N x1 = some r) :
    ACalls Tryz.prog 111 [.d (.list 1 (List.map I x1))] [] fun e os => e = .ret (.d (I r)) ∧ os = [] := by
  refine acalls_f (fresh := false) tt_ok dr_ok ⟨[], [], [], [], [1004], 0, []⟩ Tryz.func111 rfl Tryz.call111 rfl ?_
  unfold slicesMax at h
  (conv=>whnf);refine LnA.mk _ (List.length_map _) ?_;(conv=>whnf);refine Br.mk (fun hc2 => ?_) (fun hc2 => ?_)
  ·replace h := ite_t hc2 h;cases h
  ·replace h := ite_f hc2 h;obtain ⟨x3, hx2, h⟩ := obind h;(conv=>whnf);refine Side.mk rfl ⟨_, idx_0 hx2, idx_map _ hx2, ?_⟩;obtain ⟨m5, hx9, h⟩ := obind h;(conv=>whnf);refine SeqG.mk Unit (fun y => [(3, .d (I m5))]) (fun y => []) (fun _ => True) ?_ ?_
   ·(conv=>whnf);refine LoopG.mk (Nat × (Int × Int)) (fun y => [(0, .d (.list 1 (List.map I x1))), (3, .d (I y.2.1)), (4, .d (I y.2.2))]) (fun y => []) (fun y => loopN (fun rr x => slicesMax_b1 N x1 rr x.1 x.2) y.1 y.2 = some m5) (fun y => y.1) (N, (x3, 1)) hx9 (Sub.eq rfl ?_ ?_) ?_
    ·(repeat ((conv=>whnf);refine nr ?_));exact trivial
    ·exact trivial
    ·rintro ⟨n2, ⟨m9, i8⟩⟩ hl2;obtain ⟨n2, rfl, hl2⟩ := loopN_some hl2;replace hl2 : slicesMax_b1 N x1 (loopN (fun rr x => slicesMax_b1 N x1 rr x.1 x.2) n2) m9 i8 = some m5 := hl2;rw [slicesMax_b1] at hl2;(conv=>whnf);refine LnA.mk _ (List.length_map _) ?_;(conv=>whnf);refine Br.mk (fun hc14 => ?_) (fun hc14 => ?_)
     ·replace hl2 := ite_t hc14 hl2;obtain ⟨x15, hx15, hl2⟩ := obind hl2;(conv=>whnf);refine Side.mk rfl ⟨_, idx_0 hx15, idx_map _ hx15, ?_⟩;(conv=>whnf);refine ⟨(n2, (max m9 x15, w64 (i8 + 1))), hl2, Sub.eq rfl ?_ ?_, Nat.lt_succ_self _⟩
      ·(repeat ((conv=>whnf);refine nr ?_));exact trivial
      ·exact trivial
     ·replace hl2 := ite_f hc14 hl2;cases hl2;(conv=>whnf);refine ⟨(), trivial, Sub.eq rfl ?_ ?_⟩
      ·(repeat ((conv=>whnf);refine nr ?_));exact trivial
      ·exact trivial
   ·rintro _ _;(conv=>whnf);cases h;exact rfl
theorem leagueGreatestC {N : Nat} (hN : N ≤ 1073741824) {l1 : List Int} {r : Int} (h : leagueGreatest N l1 = some r) :
    ACalls Tryz.prog 76 [.d (.list 1 (List.map I l1))] [] fun e os => e = .ret (.d (I r)) ∧ os = [] := by
  refine acalls_f (fresh := false) tt_ok dr_ok ⟨[], [], [], [], [], 0, []⟩ Tryz.func76 rfl Tryz.call76 rfl ?_
  unfold leagueGreatest at h
  obtain ⟨r2, hx2, h⟩ := obind h;(conv=>whnf);refine CallG.pure _ (slicesMaxC hN hx2) ?_;(conv=>whnf);cases h;exact rfl
theorem leagueTableFallC {N : Nat} (hN : N ≤ 1073741824) {t1 : LeagueTable} {r1 : LeagueRuled} {group1 : List Int} {r : (List (List Int))} (h : leagueTableFall N t1 r1 group1 = some r) :
    ACalls Tryz.prog 43 [.d (.agg [I t1.fLeague.fTeams, .list 5 (List.map LeagueGame.enc t1.fLeague.fGames)]), .d (.agg [.fn (.func (fnv116 r1.fOf)) [] []]), .d (.list 1 (List.map I group1))] [] fun e os => e = .ret (.d (.list 1 (List.map (fun x => .list 1 (List.map I x)) r))) ∧ os = [] := by
  refine acalls_f (fresh := false) tt_ok dr_ok ⟨[3, 4], [], [], [], [1002, 1004, 1010, 1012], 0, [16, 61]⟩ Tryz.func43 rfl Tryz.call43 rfl ?_
  unfold leagueTableFall at h
  obtain ⟨r3, hx2, h⟩ := obind h;(conv=>whnf);refine CallG.pure _ (slicesCloneC hN hx2) ?_;obtain ⟨l170, hx390, h⟩ := obind h;(conv=>whnf);refine SeqG.mk Value (fun y => [(6, .sl 60 y)]) (fun y => [(60, .arr y 24 1 false (List.map (fun x => .list 1 (List.map I x)) l170))]) (fun _ => True) ?_ ?_
  ·(conv=>whnf);refine LoopG.mk (Nat × ((List Int) × (List (List Int))) × Value) (fun y => [(2, .d (.list 1 (List.map I group1))), (3, .d (.ref (.agg [I t1.fLeague.fTeams, .list 5 (List.map LeagueGame.enc t1.fLeague.fGames)]))), (4, .d (.ref (.agg [.fn (.func (fnv116 r1.fOf)) [] []]))), (6, .sl 60 y.2.2), (7, .d (.list 1 (List.map I y.2.1.1)))]) (fun y => [(60, .arr y.2.2 24 1 false (List.map (fun x => .list 1 (List.map I x)) y.2.1.2))]) (fun y => loopN (fun rr x => leagueTableFall_b4 N t1 r1 group1 rr x.1 x.2) y.1 y.2.1 = some l170) (fun y => y.1) (N, (r3, []), (.slice none 0 0)) hx390 (Sub.eq rfl ?_ ?_) ?_
   ·(repeat ((conv=>whnf);refine nr ?_));exact trivial
   ·(conv=>whnf);refine Need.mk (OLe.nil _ _ _ _) ?_;exact trivial
   ·rintro ⟨n22, ⟨rest8, l284⟩, hd469⟩ hl22;obtain ⟨n22, rfl, hl22⟩ := loopN_some hl22;replace hl22 : leagueTableFall_b4 N t1 r1 group1 (loopN (fun rr x => leagueTableFall_b4 N t1 r1 group1 rr x.1 x.2) n22) rest8 l284 = some l170 := hl22;rw [leagueTableFall_b4] at hl22;(conv=>whnf);refine SeqG.mk Unit (fun y => [(2, .d (.list 1 (List.map I group1))), (3, .d (.ref (.agg [I t1.fLeague.fTeams, .list 5 (List.map LeagueGame.enc t1.fLeague.fGames)]))), (4, .d (.ref (.agg [.fn (.func (fnv116 r1.fOf)) [] []]))), (6, .sl 60 hd469), (7, .d (.list 1 (List.map I rest8)))]) (fun y => [(60, .arr hd469 24 1 false (List.map (fun x => .list 1 (List.map I x)) l284))]) (fun y => leagueTableFall_k3 N t1 r1 group1 rest8 l284 (loopN (fun rr x => leagueTableFall_b4 N t1 r1 group1 rr x.1 x.2) n22) = some l170) ?_ ?_
    ·(conv=>whnf);refine LnA.mk _ (List.length_map _) ?_;(conv=>whnf);refine Br.mk (fun hc228 => ?_) (fun hc228 => ?_)
     ·replace hl22 := ite_t hc228 hl22;(conv=>whnf);refine ⟨(), hl22, Sub.eq rfl ?_ ?_⟩
      ·(repeat ((conv=>whnf);refine nr ?_));exact trivial
      ·(conv=>whnf);refine no ?_;exact trivial
     ·replace hl22 := ite_f hc228 hl22;cases hl22;(conv=>whnf);refine ⟨hd469, trivial, Sub.eq rfl ?_ ?_⟩
      ·(repeat ((conv=>whnf);refine nr ?_));exact trivial
      ·(conv=>whnf);refine no ?_;exact trivial
    ·rintro _ h;unfold leagueTableFall_k3 at h;obtain ⟨best50, hx673, h⟩ := obind h;(conv=>whnf);refine SeqG.mk Unit (fun y => [(2, .d (.list 1 (List.map I group1))), (3, .d (.ref (.agg [I t1.fLeague.fTeams, .list 5 (List.map LeagueGame.enc t1.fLeague.fGames)]))), (4, .d (.ref (.agg [.fn (.func (fnv116 r1.fOf)) [] []]))), (6, .sl 60 hd469), (7, .d (.list 1 (List.map I rest8))), (8, .d (I best50))]) (fun y => [(60, .arr hd469 24 1 false (List.map (fun x => .list 1 (List.map I x)) l284))]) (fun _ => True) ?_ ?_
     ·(conv=>whnf);refine LnA.mk _ (List.length_map _) ?_;(conv=>whnf);refine LoopG.mk (Nat × (Int × Int × Int)) (fun y => [(2, .d (.list 1 (List.map I group1))), (3, .d (.ref (.agg [I t1.fLeague.fTeams, .list 5 (List.map LeagueGame.enc t1.fLeague.fGames)]))), (4, .d (.ref (.agg [.fn (.func (fnv116 r1.fOf)) [] []]))), (6, .sl 60 hd469), (7, .d (.list 1 (List.map I rest8))), (8, .d (I y.2.1)), (20, .d (.list 1 (List.map I rest8))), (21, .d (I y.2.2.1)), (22, .d (I y.2.2.2))]) (fun y => [(60, .arr hd469 24 1 false (List.map (fun x => .list 1 (List.map I x)) l284))]) (fun y => loopN (fun rr x => leagueTableFall_b1 N t1 r1 group1 rest8 rr x.1 x.2.1 x.2.2) y.1 y.2 = some best50) (fun y => y.1) (N, ((-1), (rest8.length : Int), 0)) hx673 (Sub.eq rfl ?_ ?_) ?_
      ·(repeat ((conv=>whnf);refine nr ?_));exact trivial
      ·(conv=>whnf);refine no ?_;exact trivial
      ·rintro ⟨n24, ⟨best54, v197, v198⟩⟩ hl24;obtain ⟨n24, rfl, hl24⟩ := loopN_some hl24;replace hl24 : leagueTableFall_b1 N t1 r1 group1 rest8 (loopN (fun rr x => leagueTableFall_b1 N t1 r1 group1 rest8 rr x.1 x.2.1 x.2.2) n24) best54 v197 v198 = some best50 := hl24;rw [leagueTableFall_b1] at hl24;(conv=>whnf);refine Br.mk (fun hc203 => ?_) (fun hc203 => ?_)
       ·replace hl24 := ite_t hc203 hl24;obtain ⟨x264, hx695, hl24⟩ := obind hl24;(conv=>whnf);refine Side.mk rfl ⟨_, idx_0 hx695, idx_map _ hx695, ?_⟩;obtain ⟨r266, hx696, hl24⟩ := obind hl24;(conv=>whnf);refine CallG.pure _ (leagueTableNumberC hN hx696) ?_;(conv=>whnf);intro hd481;obtain ⟨r267, hx697, hl24⟩ := obind hl24;(conv=>whnf);refine sr ?_;(conv=>whnf);refine CallG.pure _ (leagueGreatestC hN hx697) ?_;(conv=>whnf);refine ⟨(n24, (r267, v197, w64 (v198 + 1))), hl24, Sub.eq rfl ?_ ?_, Nat.lt_succ_self _⟩
        ·(repeat ((conv=>whnf);refine nr ?_));exact trivial
        ·(conv=>whnf);refine no ?_;exact trivial
       ·replace hl24 := ite_f hc203 hl24;cases hl24;(conv=>whnf);refine ⟨(), trivial, Sub.eq rfl ?_ ?_⟩
        ·(repeat ((conv=>whnf);refine nr ?_));exact trivial
        ·(conv=>whnf);refine no ?_;exact trivial
     ·rintro _ _;obtain ⟨⟨l311, l312⟩, hx737, h⟩ := obind h;(conv=>whnf);refine SeqG.mk (Value × Value) (fun y => [(2, .d (.list 1 (List.map I group1))), (3, .d (.ref (.agg [I t1.fLeague.fTeams, .list 5 (List.map LeagueGame.enc t1.fLeague.fGames)]))), (4, .d (.ref (.agg [.fn (.func (fnv116 r1.fOf)) [] []]))), (6, .sl 60 hd469), (11, .sl 51 y.1), (12, .sl 55 y.2)]) (fun y => [(60, .arr hd469 24 1 false (List.map (fun x => .list 1 (List.map I x)) l284)), (51, .arr y.1 3 1 false (List.map I l311)), (55, .arr y.2 3 1 false (List.map I l312))]) (fun _ => True) ?_ ?_
      ·(conv=>whnf);refine LnA.mk _ (List.length_map _) ?_;(conv=>whnf)
       refine LoopG.mk (Nat × (Int × Int × (List Int) × (List Int)) × Value × Value) (fun y => [(2, .d (.list 1 (List.map I group1))), (3, .d (.ref (.agg [I t1.fLeague.fTeams, .list 5 (List.map LeagueGame.enc t1.fLeague.fGames)]))), (4, .d (.ref (.agg [.fn (.func (fnv116 r1.fOf)) [] []]))), (6, .sl 60 hd469), (8, .d (I best50)), (11, .sl 51 y.2.2.1), (12, .sl 55 y.2.2.2), (35, .d (.list 1 (List.map I rest8))), (36, .d (I y.2.1.1)), (37, .d (I y.2.1.2.1))]) (fun y => [(60, .arr hd469 24 1 false (List.map (fun x => .list 1 (List.map I x)) l284)), (51, .arr y.2.2.1 3 1 false (List.map I y.2.1.2.2.1)), (55, .arr y.2.2.2 3 1 false (List.map I y.2.1.2.2.2))]) (fun y => loopN (fun rr x => leagueTableFall_b2 N t1 r1 group1 rest8 best50 rr x.1 x.2.1 x.2.2.1 x.2.2.2) y.1 y.2.1 = some (l311, l312)) (fun y => y.1) (N, ((rest8.length : Int), 0, [], []), (.slice none 0 0), (.slice none 0 0)) hx737 (Sub.eq rfl ?_ ?_) ?_
       ·(repeat ((conv=>whnf);refine nr ?_));exact trivial
       ·(conv=>whnf);refine no ?_;(conv=>whnf);refine Need.mk (OLe.nil _ _ _ _) ?_;(conv=>whnf);refine Need.mk (OLe.nil _ _ _ _) ?_;exact trivial
       ·rintro ⟨n26, ⟨v215, v216, l331, l332⟩, hd548, hd549⟩ hl26;obtain ⟨n26, rfl, hl26⟩ := loopN_some hl26;replace hl26 : leagueTableFall_b2 N t1 r1 group1 rest8 best50 (loopN (fun rr x => leagueTableFall_b2 N t1 r1 group1 rest8 best50 rr x.1 x.2.1 x.2.2.1 x.2.2.2) n26) v215 v216 l331 l332 = some (l311, l312) := hl26;rw [leagueTableFall_b2] at hl26;(conv=>whnf);refine Br.mk (fun hc225 => ?_) (fun hc225 => ?_)
        ·replace hl26 := ite_t hc225 hl26;obtain ⟨⟨l335, l336⟩, hx770, hl26⟩ := obind hl26;(conv=>whnf);refine SeqG.mk (Value × Value) (fun y => [(2, .d (.list 1 (List.map I group1))), (3, .d (.ref (.agg [I t1.fLeague.fTeams, .list 5 (List.map LeagueGame.enc t1.fLeague.fGames)]))), (4, .d (.ref (.agg [.fn (.func (fnv116 r1.fOf)) [] []]))), (6, .sl 60 hd469), (8, .d (I best50)), (11, .sl 51 y.1), (12, .sl 55 y.2), (35, .d (.list 1 (List.map I rest8))), (36, .d (I v215)), (37, .d (I v216))]) (fun y => [(60, .arr hd469 24 1 false (List.map (fun x => .list 1 (List.map I x)) l284)), (51, .arr y.1 3 1 false (List.map I l335)), (55, .arr y.2 3 1 false (List.map I l336))]) (fun _ => True) ?_ ?_
         ·obtain ⟨x288, hx772, hx770⟩ := obind hx770;(conv=>whnf);refine Side.mk rfl ⟨_, idx_0 hx772, idx_map _ hx772, ?_⟩;obtain ⟨r291, hx774, hx770⟩ := obind hx770;(conv=>whnf);refine CallG.pure _ (leagueTableNumberC hN hx774) ?_;(conv=>whnf);refine Br.mk (fun hc227 => ?_) (fun hc227 => ?_)
          ·replace hx770 := ite_t hc227 hx770;(conv=>whnf);intro hd556;obtain ⟨l337, hx775, hx770⟩ := obind hx770;(conv=>whnf);refine Side.mk ⟨rfl, rfl⟩ ?_;(conv=>whnf);refine Side.mk ⟨rfl, rfl, rfl⟩ (Need.mk (app_need hN hx775 (by decide)) (Eqv.mk (List.map I l337) (app_map _ hx775) ?_));(conv=>whnf);intro hd557;cases hx770;(conv=>whnf);refine ⟨(hd557, hd549), trivial, Sub.eq rfl ?_ ?_⟩
           ·(repeat ((conv=>whnf);refine nr ?_));exact trivial
           ·(conv=>whnf);refine no ?_;(conv=>whnf);refine no ?_;(conv=>whnf);refine no ?_;exact trivial
          ·replace hx770 := ite_f hc227 hx770;(conv=>whnf);intro hd558;obtain ⟨l338, hx776, hx770⟩ := obind hx770;(conv=>whnf);refine Side.mk ⟨rfl, rfl⟩ ?_;(conv=>whnf);refine Side.mk ⟨rfl, rfl, rfl⟩ (Need.mk (app_need hN hx776 (by decide)) (Eqv.mk (List.map I l338) (app_map _ hx776) ?_));(conv=>whnf);intro hd559;cases hx770;(conv=>whnf);refine ⟨(hd548, hd559), trivial, Sub.eq rfl ?_ ?_⟩
           ·(repeat ((conv=>whnf);refine nr ?_));exact trivial
           ·(conv=>whnf);refine no ?_;(conv=>whnf);refine no ?_;(conv=>whnf);refine no ?_;exact trivial
         ·rintro ⟨hd554, hd555⟩ _;(conv=>whnf);refine ⟨(n26, (v215, w64 (v216 + 1), l335, l336), hd554, hd555), hl26, Sub.eq rfl ?_ ?_, Nat.lt_succ_self _⟩
          ·(repeat ((conv=>whnf);refine nr ?_));exact trivial
          ·(conv=>whnf);refine no ?_;(conv=>whnf);refine no ?_;(conv=>whnf);refine no ?_;exact trivial
        ·replace hl26 := ite_f hc225 hl26;cases hl26;(conv=>whnf);refine ⟨(hd548, hd549), trivial, Sub.eq rfl ?_ ?_⟩
         ·(repeat ((conv=>whnf);refine nr ?_));exact trivial
         ·(conv=>whnf);refine no ?_;(conv=>whnf);refine no ?_;(conv=>whnf);refine no ?_;exact trivial
      ·rintro ⟨hd520, hd521⟩ _;(conv=>whnf);refine sr ?_;(conv=>whnf);intro hd560;obtain ⟨l339, hx777, h⟩ := obind h;(conv=>whnf);refine Side.mk ⟨rfl, rfl⟩ ?_;(conv=>whnf);refine Side.mk ⟨rfl, rfl, rfl⟩ (Need.mk (app_need hN hx777 (by decide)) (Eqv.mk (List.map (fun x => .list 1 (List.map I x)) l339) (app_map _ hx777) ?_));(conv=>whnf);intro hd561;(conv=>whnf);refine sr ?_;(conv=>whnf);refine ⟨(n22, (l312, l339), hd561), h, Sub.eq rfl ?_ ?_, Nat.lt_succ_self _⟩
       ·(repeat ((conv=>whnf);refine nr ?_));exact trivial
       ·(conv=>whnf);refine no ?_;exact trivial
  ·rintro hd281 _;(conv=>whnf);refine sr ?_;(conv=>whnf);cases h;exact rfl
theorem leagueRankC {N : Nat} (hN : N ≤ 1073741824) {l1 : LeagueLeague} {rules1 : List Int} {r : (List Int) × Int} (h : leagueRank N l1 rules1 = some r) :
    ACalls Tryz.prog 17 [.d (.agg [I l1.fTeams, .list 5 (List.map LeagueGame.enc l1.fGames)]), .d (.list 1 (List.map (fun x => .int .u8 x) rules1))] [] fun e os => e = .ret (.d (.tup [.list 1 (List.map I r.1), I r.2])) ∧ os = [] := by
  refine acalls_f (fresh := false) tt_ok dr_ok ⟨[2], [], [], [], [1010, 1016, 1018, 1020, 1028, 1030, 1031], 0, []⟩ Tryz.func17 rfl Tryz.call17 rfl ?_
  unfold leagueRank at h
  obtain ⟨r4, hx4, h⟩ := obind h;(conv=>whnf);refine CallG.pure _ (leagueCheckLeagueC hN hx4) ?_;(conv=>whnf);refine Br.mk (fun hc2 => ?_) (fun hc2 => ?_)
  ·replace h := ite_t hc2 h;cases h
  ·replace h := ite_f hc2 h;(conv=>whnf);refine LnA.mk _ (List.length_map _) ?_;(conv=>whnf);refine Br.mk (fun hc5 => ?_) (fun hc5 => ?_)
   ·replace h := ite_t hc5 h;cases h
   ·replace h := ite_f hc5 h;obtain ⟨r8, hx8, h⟩ := obind h;(conv=>whnf);refine CallG.pure _ (leagueAllXC hN hx8) ?_;(conv=>whnf);refine Br.mk (fun hc6 => ?_) (fun hc6 => ?_)
    ·replace h := ite_t hc6 h;cases h
    ·replace h := ite_f hc6 h;(conv=>whnf);intro b2;(conv=>whnf);refine sr ?_;obtain ⟨l3, hx10, h⟩ := obind h;(conv=>whnf);refine Need.mk (mkl_need hN hx10 (by decide)) (Eqv.mk (List.map I l3) (mkl_map _ hx10 rfl) ?_);(conv=>whnf);intro hd2;obtain ⟨l8, hx17, h⟩ := obind h;(conv=>whnf);refine SeqG.mk Unit (fun y => [(1, .d (.list 1 (List.map (fun x => .int .u8 x) rules1))), (2, .d (.ref (.agg [I l1.fTeams, .list 5 (List.map LeagueGame.enc l1.fGames)]))), (7, .ptr 7 b2 0), (8, .sl 39 hd2)]) (fun y => [(7, .cells b2 [.d (I l1.fTeams), .d (.list 5 (List.map LeagueGame.enc l1.fGames))]), (39, .arr hd2 3 1 false (List.map I l8))]) (fun _ => True) ?_ ?_
     ·(conv=>whnf);refine sr ?_;(conv=>whnf);refine LoopG.mk (Nat × (Int × (List Int))) (fun y => [(1, .d (.list 1 (List.map (fun x => .int .u8 x) rules1))), (2, .d (.ref (.agg [I l1.fTeams, .list 5 (List.map LeagueGame.enc l1.fGames)]))), (7, .ptr 7 b2 0), (8, .sl 39 hd2), (42, .d (I l1.fTeams)), (43, .d (I y.2.1))]) (fun y => [(7, .cells b2 [.d (I l1.fTeams), .d (.list 5 (List.map LeagueGame.enc l1.fGames))]), (39, .arr hd2 3 1 false (List.map I y.2.2))]) (fun y => loopN (fun rr x => leagueRank_b1 N l1 rr x.1 x.2) y.1 y.2 = some l8) (fun y => y.1) (N, (0, l3)) hx17 (Sub.eq rfl ?_ ?_) ?_
      ·(repeat ((conv=>whnf);refine nr ?_));exact trivial
      ·(conv=>whnf);refine no ?_;(conv=>whnf);refine no ?_;exact trivial
      ·rintro ⟨n2, ⟨v8, l12⟩⟩ hl2;obtain ⟨n2, rfl, hl2⟩ := loopN_some hl2;replace hl2 : leagueRank_b1 N l1 (loopN (fun rr x => leagueRank_b1 N l1 rr x.1 x.2) n2) v8 l12 = some l8 := hl2;rw [leagueRank_b1] at hl2;(conv=>whnf);refine Br.mk (fun hc18 => ?_) (fun hc18 => ?_)
       ·replace hl2 := ite_t hc18 hl2;obtain ⟨x12, hx23, hl2⟩ := obind hl2;(conv=>whnf);refine Side.mk ⟨rfl, rfl⟩ (Need.mk (idx_need _ hx23) ?_);(conv=>whnf);refine Side.mk ⟨rfl, rfl⟩ ⟨_, Int.natCast_nonneg _, idx_el _ hx23, ?_⟩;(conv=>whnf);refine Eqv.mk (List.map I (List.set l12 (Int.toNat v8) v8)) (set_map _ _ _ _ rfl) ?_;(conv=>whnf);refine ⟨(n2, (w64 (v8 + 1), (List.set l12 (Int.toNat v8) v8))), hl2, Sub.eq rfl ?_ ?_, Nat.lt_succ_self _⟩
        ·(repeat ((conv=>whnf);refine nr ?_));exact trivial
        ·(conv=>whnf);refine no ?_;(conv=>whnf);refine no ?_;exact trivial
       ·replace hl2 := ite_f hc18 hl2;cases hl2;(conv=>whnf);refine ⟨(), trivial, Sub.eq rfl ?_ ?_⟩
        ·(repeat ((conv=>whnf);refine nr ?_));exact trivial
        ·(conv=>whnf);refine no ?_;(conv=>whnf);refine no ?_;exact trivial
     ·rintro _ _;(conv=>whnf);refine sr ?_;(conv=>whnf);intro hd4;obtain ⟨l146, hx405, h⟩ := obind h;(conv=>whnf);refine SeqG.mk Value (fun y => [(2, .d (.ref (.agg [I l1.fTeams, .list 5 (List.map LeagueGame.enc l1.fGames)]))), (10, .sl 52 y)]) (fun y => [(52, .arr y 24 1 false (List.map (fun x => .list 1 (List.map I x)) l146))]) (fun _ => True) ?_ ?_
      ·(conv=>whnf);refine LnA.mk _ (List.length_map _) ?_;(conv=>whnf);refine LoopG.mk (Nat × (Int × Int × (List (List Int))) × Value) (fun y => [(2, .d (.ref (.agg [I l1.fTeams, .list 5 (List.map LeagueGame.enc l1.fGames)]))), (7, .ptr 7 b2 0), (10, .sl 52 y.2.2), (53, .d (.list 1 (List.map (fun x => .int .u8 x) rules1))), (54, .d (I y.2.1.1)), (55, .d (I y.2.1.2.1))]) (fun y => [(7, .cells b2 [.d (I l1.fTeams), .d (.list 5 (List.map LeagueGame.enc l1.fGames))]), (52, .arr y.2.2 24 1 false (List.map (fun x => .list 1 (List.map I x)) y.2.1.2.2))]) (fun y => loopN (fun rr x => leagueRank_b3 N l1 rules1 rr x.1 x.2.1 x.2.2) y.1 y.2.1 = some l146) (fun y => y.1) (N, ((rules1.length : Int), 0, [l8]), hd4) hx405 (Sub.eq rfl ?_ ?_) ?_
       ·(repeat ((conv=>whnf);refine nr ?_));exact trivial
       ·(conv=>whnf);refine no ?_;(conv=>whnf);refine no ?_;exact trivial
       ·rintro ⟨n24, ⟨v205, v206, l236⟩, hd348⟩ hl24;obtain ⟨n24, rfl, hl24⟩ := loopN_some hl24;replace hl24 : leagueRank_b3 N l1 rules1 (loopN (fun rr x => leagueRank_b3 N l1 rules1 rr x.1 x.2.1 x.2.2) n24) v205 v206 l236 = some l146 := hl24;rw [leagueRank_b3] at hl24;(conv=>whnf);refine Br.mk (fun hc150 => ?_) (fun hc150 => ?_)
        ·replace hl24 := ite_t hc150 hl24;obtain ⟨l258, hx723, hl24⟩ := obind hl24;(conv=>whnf);refine SeqG.mk Value (fun y => [(2, .d (.ref (.agg [I l1.fTeams, .list 5 (List.map LeagueGame.enc l1.fGames)]))), (7, .ptr 7 b2 0), (10, .sl 71 y), (53, .d (.list 1 (List.map (fun x => .int .u8 x) rules1))), (54, .d (I v205)), (55, .d (I v206))]) (fun y => [(7, .cells b2 [.d (I l1.fTeams), .d (.list 5 (List.map LeagueGame.enc l1.fGames))]), (71, .arr y 24 1 false (List.map (fun x => .list 1 (List.map I x)) l258))]) (fun _ => True) ?_ ?_
         ·obtain ⟨x300, hx725, hx723⟩ := obind hx723;(conv=>whnf);refine Side.mk rfl ⟨_, idx_0 hx725, idx_map _ hx725, ?_⟩;obtain ⟨l269, hx756, hx723⟩ := obind hx723;(conv=>whnf);refine SeqG.mk Value (fun y => [(2, .d (.ref (.agg [I l1.fTeams, .list 5 (List.map LeagueGame.enc l1.fGames)]))), (7, .ptr 7 b2 0), (13, .sl 71 y), (53, .d (.list 1 (List.map (fun x => .int .u8 x) rules1))), (54, .d (I v205)), (55, .d (I v206))]) (fun y => [(7, .cells b2 [.d (I l1.fTeams), .d (.list 5 (List.map LeagueGame.enc l1.fGames))]), (71, .arr y 24 1 false (List.map (fun x => .list 1 (List.map I x)) l269))]) (fun _ => True) ?_ ?_
          ·(conv=>whnf);refine Side.mk rfl (LnA.mk _ (List.length_map _) ?_);(conv=>whnf)
           refine LoopG.mk (Nat × (Int × Int × (List (List Int))) × Value) (fun y => [(2, .d (.ref (.agg [I l1.fTeams, .list 5 (List.map LeagueGame.enc l1.fGames)]))), (7, .ptr 7 b2 0), (12, .d (.int .u8 x300)), (13, .sl 71 y.2.2), (53, .d (.list 1 (List.map (fun x => .int .u8 x) rules1))), (54, .d (I v205)), (55, .d (I v206)), (59, .sl 52 hd348), (60, .d (I y.2.1.1)), (61, .d (I y.2.1.2.1))]) (fun y => [(7, .cells b2 [.d (I l1.fTeams), .d (.list 5 (List.map LeagueGame.enc l1.fGames))]), (71, .arr y.2.2 24 1 false (List.map (fun x => .list 1 (List.map I x)) y.2.1.2.2)), (52, .arr hd348 24 1 false (List.map (fun x => .list 1 (List.map I x)) l236))]) (fun y => loopN (fun rr x => leagueRank_b2 N l1 l236 x300 rr x.1 x.2.1 x.2.2) y.1 y.2.1 = some l269) (fun y => y.1) (N, ((l236.length : Int), 0, []), (.slice none 0 0)) hx756 (Sub.eq rfl ?_ ?_) ?_
           ·(repeat ((conv=>whnf);refine nr ?_));exact trivial
           ·(conv=>whnf);refine no ?_;(conv=>whnf);refine Need.mk (OLe.nil _ _ _ _) ?_;(conv=>whnf);refine no ?_;exact trivial
           ·rintro ⟨n28, ⟨v241, v242, l277⟩, hd411⟩ hl28;obtain ⟨n28, rfl, hl28⟩ := loopN_some hl28;replace hl28 : leagueRank_b2 N l1 l236 x300 (loopN (fun rr x => leagueRank_b2 N l1 l236 x300 rr x.1 x.2.1 x.2.2) n28) v241 v242 l277 = some l269 := hl28;rw [leagueRank_b2] at hl28;(conv=>whnf);refine Br.mk (fun hc174 => ?_) (fun hc174 => ?_)
            ·replace hl28 := ite_t hc174 hl28;obtain ⟨x324, hx783, hl28⟩ := obind hl28;(conv=>whnf);refine Side.mk ⟨rfl, rfl⟩ (Need.mk (idx_need _ hx783) ?_);(conv=>whnf);refine Side.mk ⟨rfl, rfl⟩ ⟨_, Int.natCast_nonneg _, idx_el _ hx783, ?_⟩;obtain ⟨r295, hx784, hl28⟩ := obind hl28;obtain ⟨r296, hx785, hl28⟩ := obind hl28;obtain ⟨l279, hx786, hl28⟩ := obind hl28;(conv=>whnf);refine DrawG.mk (.take 0 (.take 1 (.take 2 (.take 4 (.alt 3 [4, 1, 0] (.alt 5 [0] (.alt 6 [] (.take 7 .done) .nil) .nil) .nil))))) (by kernel_rfl) ?_;(conv=>whnf);refine sr ?_;(conv=>whnf);refine Both.mk ?_ trivial;(conv=>whnf);refine CallG.pure _ (leagueRuleC hN hx784) ?_;(conv=>whnf);refine nl ?_;(conv=>whnf);refine sr ?_;(conv=>whnf);refine nl ?_;(conv=>whnf);refine nl ?_;(conv=>whnf);refine Both.mk ?_ trivial;(conv=>whnf);refine CallG.pure _ (leagueTableFallC hN hx785) ?_;(conv=>whnf);refine nl ?_;(conv=>whnf)
             refine Both.mk ?_ trivial;(conv=>whnf);refine sr ?_;(conv=>whnf);refine Side.mk ⟨rfl, rfl, rfl⟩ (Need.mk (app_need hN hx786 (by decide)) (Eqv.mk (List.map (fun x => .list 1 (List.map I x)) l279) (app_map _ hx786) ?_));(conv=>whnf);intro hd415;(conv=>whnf);refine ⟨(n28, (v241, w64 (v242 + 1), l279), hd415), hl28, Sub.eq rfl ?_ ?_, Nat.lt_succ_self _⟩
             ·(repeat ((conv=>whnf);refine nr ?_));exact trivial
             ·(conv=>whnf);refine no ?_;(conv=>whnf);refine no ?_;(conv=>whnf);refine no ?_;exact trivial
            ·replace hl28 := ite_f hc174 hl28;cases hl28;(conv=>whnf);refine ⟨hd411, trivial, Sub.eq rfl ?_ ?_⟩
             ·(repeat ((conv=>whnf);refine nr ?_));exact trivial
             ·(conv=>whnf);refine no ?_;(conv=>whnf);refine no ?_;exact trivial
          ·rintro hd399 _;cases hx723;(conv=>whnf);refine ⟨hd399, trivial, Sub.eq rfl ?_ ?_⟩
           ·(repeat ((conv=>whnf);refine nr ?_));exact trivial
           ·(conv=>whnf);refine no ?_;(conv=>whnf);refine no ?_;exact trivial
         ·rintro hd382 _;(conv=>whnf);refine ⟨(n24, (v205, w64 (v206 + 1), l258), hd382), hl24, Sub.ren [(52, 71)] rfl rfl ?_ ?_, Nat.lt_succ_self _⟩
          ·(repeat ((conv=>whnf);refine nr ?_));exact trivial
          ·(conv=>whnf);refine no ?_;(conv=>whnf);refine no ?_;exact trivial
        ·replace hl24 := ite_f hc150 hl24;cases hl24;(conv=>whnf);refine ⟨hd348, trivial, Sub.eq rfl ?_ ?_⟩
         ·(repeat ((conv=>whnf);refine nr ?_));exact trivial
         ·(conv=>whnf);refine no ?_;exact trivial
      ·rintro hd210 _;obtain ⟨l281, hx788, h⟩ := obind h;(conv=>whnf);refine Need.mk (mkl_need hN hx788 (by decide)) (Eqv.mk (List.map I l281) (mkl_map _ hx788 rfl) ?_);(conv=>whnf);intro hd417;obtain ⟨l343, hx1026, h⟩ := obind h;(conv=>whnf);refine SeqG.mk Unit (fun y => [(16, .sl 77 hd417)]) (fun y => [(77, .arr hd417 3 1 false (List.map I l343))]) (fun _ => True) ?_ ?_
       ·(conv=>whnf);refine Side.mk rfl (LnA.mk _ (List.length_map _) ?_);(conv=>whnf);refine LoopG.mk (Nat × (Int × Int × Int × (List Int))) (fun y => [(16, .sl 77 hd417), (17, .d (I y.2.1)), (78, .sl 52 hd210), (79, .d (I y.2.2.1)), (80, .d (I y.2.2.2.1))]) (fun y => [(77, .arr hd417 3 1 false (List.map I y.2.2.2.2)), (52, .arr hd210 24 1 false (List.map (fun x => .list 1 (List.map I x)) l146))]) (fun y => loopN (fun rr x => leagueRank_b5 N l146 rr x.1 x.2.1 x.2.2.1 x.2.2.2) y.1 y.2 = some l343) (fun y => y.1) (N, (1, (l146.length : Int), 0, l281)) hx1026 (Sub.eq rfl ?_ ?_) ?_
        ·(repeat ((conv=>whnf);refine nr ?_));exact trivial
        ·(conv=>whnf);refine no ?_;(conv=>whnf);refine no ?_;exact trivial
        ·rintro ⟨n50, ⟨rank13, v439, v440, l385⟩⟩ hl50;obtain ⟨n50, rfl, hl50⟩ := loopN_some hl50;replace hl50 : leagueRank_b5 N l146 (loopN (fun rr x => leagueRank_b5 N l146 rr x.1 x.2.1 x.2.2.1 x.2.2.2) n50) rank13 v439 v440 l385 = some l343 := hl50;rw [leagueRank_b5] at hl50;(conv=>whnf);refine Br.mk (fun hc306 => ?_) (fun hc306 => ?_)
         ·replace hl50 := ite_t hc306 hl50;obtain ⟨⟨rank14, l395⟩, hx1224, hl50⟩ := obind hl50;(conv=>whnf);refine SeqG.mk Unit (fun y => [(16, .sl 77 hd417), (17, .d (I rank14)), (78, .sl 52 hd210), (79, .d (I v439)), (80, .d (I v440))]) (fun y => [(77, .arr hd417 3 1 false (List.map I l395)), (52, .arr hd210 24 1 false (List.map (fun x => .list 1 (List.map I x)) l146))]) (fun _ => True) ?_ ?_
          ·obtain ⟨x744, hx1226, hx1224⟩ := obind hx1224;(conv=>whnf);refine Side.mk ⟨rfl, rfl⟩ (Need.mk (idx_need _ hx1226) ?_);(conv=>whnf);refine Side.mk ⟨rfl, rfl⟩ ⟨_, Int.natCast_nonneg _, idx_el _ hx1226, ?_⟩;obtain ⟨l400, hx1245, hx1224⟩ := obind hx1224;(conv=>whnf);refine SeqG.mk Unit (fun y => [(16, .sl 77 hd417), (17, .d (I rank13)), (19, .d (.list 1 (List.map I x744))), (78, .sl 52 hd210), (79, .d (I v439)), (80, .d (I v440))]) (fun y => [(77, .arr hd417 3 1 false (List.map I l400)), (52, .arr hd210 24 1 false (List.map (fun x => .list 1 (List.map I x)) l146))]) (fun _ => True) ?_ ?_
           ·(conv=>whnf);refine LnA.mk _ (List.length_map _) ?_;(conv=>whnf);refine LoopG.mk (Nat × (Int × Int × (List Int))) (fun y => [(16, .sl 77 hd417), (17, .d (I rank13)), (19, .d (.list 1 (List.map I x744))), (78, .sl 52 hd210), (79, .d (I v439)), (80, .d (I v440)), (84, .d (.list 1 (List.map I x744))), (85, .d (I y.2.1)), (86, .d (I y.2.2.1))]) (fun y => [(77, .arr hd417 3 1 false (List.map I y.2.2.2)), (52, .arr hd210 24 1 false (List.map (fun x => .list 1 (List.map I x)) l146))]) (fun y => loopN (fun rr x => leagueRank_b4 N rank13 x744 rr x.1 x.2.1 x.2.2) y.1 y.2 = some l400) (fun y => y.1) (N, ((x744.length : Int), 0, l385)) hx1245 (Sub.eq rfl ?_ ?_) ?_
            ·(repeat ((conv=>whnf);refine nr ?_));exact trivial
            ·(conv=>whnf);refine no ?_;(conv=>whnf);refine no ?_;exact trivial
            ·rintro ⟨n54, ⟨v475, v476, l404⟩⟩ hl54;obtain ⟨n54, rfl, hl54⟩ := loopN_some hl54;replace hl54 : leagueRank_b4 N rank13 x744 (loopN (fun rr x => leagueRank_b4 N rank13 x744 rr x.1 x.2.1 x.2.2) n54) v475 v476 l404 = some l400 := hl54;rw [leagueRank_b4] at hl54;(conv=>whnf);refine Br.mk (fun hc330 => ?_) (fun hc330 => ?_)
             ·replace hl54 := ite_t hc330 hl54;obtain ⟨x779, hx1262, hl54⟩ := obind hl54;(conv=>whnf);refine Side.mk rfl ⟨_, idx_0 hx1262, idx_map _ hx1262, ?_⟩;obtain ⟨x780, hx1263, hl54⟩ := obind hl54;(conv=>whnf);refine Side.mk ⟨rfl, rfl⟩ (Need.mk (idx_need _ hx1263) ?_);(conv=>whnf);refine Side.mk ⟨rfl, rfl⟩ ⟨_, Int.natCast_nonneg _, idx_el _ hx1263, ?_⟩;(conv=>whnf);refine Eqv.mk (List.map I (List.set l404 (Int.toNat x779) rank13)) (set_map _ _ _ _ rfl) ?_;(conv=>whnf);refine ⟨(n54, (v475, w64 (v476 + 1), (List.set l404 (Int.toNat x779) rank13))), hl54, Sub.eq rfl ?_ ?_, Nat.lt_succ_self _⟩
              ·(repeat ((conv=>whnf);refine nr ?_));exact trivial
              ·(conv=>whnf);refine no ?_;(conv=>whnf);refine no ?_;exact trivial
             ·replace hl54 := ite_f hc330 hl54;cases hl54;(conv=>whnf);refine ⟨(), trivial, Sub.eq rfl ?_ ?_⟩
              ·(repeat ((conv=>whnf);refine nr ?_));exact trivial
              ·(conv=>whnf);refine no ?_;(conv=>whnf);refine no ?_;exact trivial
           ·rintro _ _;(conv=>whnf);refine LnA.mk _ (List.length_map _) ?_;cases hx1224;(conv=>whnf);refine ⟨(), trivial, Sub.eq rfl ?_ ?_⟩
            ·(repeat ((conv=>whnf);refine nr ?_));exact trivial
            ·(conv=>whnf);refine no ?_;(conv=>whnf);refine no ?_;exact trivial
          ·rintro _ _;(conv=>whnf);refine ⟨(n50, (rank14, v439, w64 (v440 + 1), l395)), hl50, Sub.eq rfl ?_ ?_, Nat.lt_succ_self _⟩
           ·(repeat ((conv=>whnf);refine nr ?_));exact trivial
           ·(conv=>whnf);refine no ?_;(conv=>whnf);refine no ?_;exact trivial
         ·replace hl50 := ite_f hc306 hl50;cases hl50;(conv=>whnf);refine ⟨(), trivial, Sub.eq rfl ?_ ?_⟩
          ·(repeat ((conv=>whnf);refine nr ?_));exact trivial
          ·(conv=>whnf);refine no ?_;exact trivial
       ·rintro _ _;(conv=>whnf);refine sr ?_;(conv=>whnf);cases h;exact rfl
theorem ladderCupDraw1C {N : Nat} (hN : N ≤ 1073741824) {r1 : LadderResult} {r : Bool} (h : ladderCupDraw1 N r1 = some r) :
    ACalls Tryz.prog 48 [.d (.agg [I r1.fMatch, .list 1 (List.map I r1.fGames), .bool r1.fProtested])] [] fun e os => e = .ret (.d (.bool r)) ∧ os = [] := by
  refine acalls_f (fresh := false) tt_ok dr_ok ⟨[1], [], [], [], [], 0, []⟩ Tryz.func48 rfl Tryz.call48 rfl ?_
  unfold ladderCupDraw1 at h
  (conv=>whnf);refine LnA.mk _ (List.length_map _) ?_;(conv=>whnf);cases h;exact rfl
theorem ladderAll1C {N : Nat} (hN : N ≤ 1073741824) {x1 : LadderResult} {r : Bool} (h : ladderAll1 N x1 = some r) :
    ACalls Tryz.prog 87 [.d (.agg [I x1.fMatch, .list 1 (List.map I x1.fGames), .bool x1.fProtested]), .d (.ref (.agg [.fn (.func 48) [] []]))] [] fun e os => e = .ret (.d (.bool r)) ∧ os = [] := by
  refine acalls_f (fresh := false) tt_ok dr_ok ⟨[2], [], [], [], [], 0, []⟩ Tryz.func87 rfl Tryz.call87 rfl ?_
  unfold ladderAll1 at h
  obtain ⟨r2, hx2, h⟩ := obind h;(conv=>whnf);refine CallG.pure _ (ladderCupDraw1C hN hx2) ?_;(conv=>whnf);cases h;exact rfl
theorem slicesIndexFuncXXXXXXC {N : Nat} (hN : N ≤ 1073741824) {s1 : List LadderResult} {r : Int} (h : slicesIndexFuncXXXXXX N s1 = some r) :
    ACalls Tryz.prog 118 [.d (.list 3 (List.map LadderResult.enc s1)), .d (.fn (.func 87) [] [.ref (.agg [.fn (.func 48) [] []])])] [] fun e os => e = .ret (.d (I r)) ∧ os = [] := by
  refine acalls_f (fresh := false) tt_ok dr_ok ⟨[], [], [], [], [1001], 0, []⟩ Tryz.func118 rfl Tryz.call118 rfl ?_
  unfold slicesIndexFuncXXXXXX at h
  (conv=>whnf);refine SeqG.mk Unit (fun y => []) (fun y => []) (fun y => slicesIndexFuncXXXXXX_k1 N = some r) ?_ ?_
  ·(conv=>whnf);refine LnA.mk _ (List.length_map _) ?_;(conv=>whnf);refine LoopG.mk (Nat × (Int × Int)) (fun y => [(0, .d (.list 3 (List.map LadderResult.enc s1))), (1, .d (.fn (.func 87) [] [.ref (.agg [.fn (.func 48) [] []])])), (7, .d (I y.2.1)), (8, .d (I y.2.2))]) (fun y => []) (fun y => loopN (fun rr x => slicesIndexFuncXXXXXX_b2 N s1 rr x.1 x.2) y.1 y.2 = some r) (fun y => y.1) (N, ((s1.length : Int), 0)) h (Sub.eq rfl ?_ ?_) ?_
   ·(repeat ((conv=>whnf);refine nr ?_));exact trivial
   ·exact trivial
   ·rintro ⟨n2, ⟨v17, v18⟩⟩ hl2;obtain ⟨n2, rfl, hl2⟩ := loopN_some hl2;replace hl2 : slicesIndexFuncXXXXXX_b2 N s1 (loopN (fun rr x => slicesIndexFuncXXXXXX_b2 N s1 rr x.1 x.2) n2) v17 v18 = some r := hl2;rw [slicesIndexFuncXXXXXX_b2] at hl2;(conv=>whnf);refine Br.mk (fun hc22 => ?_) (fun hc22 => ?_)
    ·replace hl2 := ite_t hc22 hl2;obtain ⟨x24, hx47, hl2⟩ := obind hl2;(conv=>whnf);refine Side.mk rfl ⟨_, idx_0 hx47, idx_map _ hx47, ?_⟩;obtain ⟨r24, hx48, hl2⟩ := obind hl2;(conv=>whnf);refine CallG.pure _ (ladderAll1C hN hx48) ?_;(conv=>whnf);refine Br.mk (fun hc24 => ?_) (fun hc24 => ?_)
     ·replace hl2 := ite_t hc24 hl2;(conv=>whnf);cases hl2;exact rfl
     ·replace hl2 := ite_f hc24 hl2;(conv=>whnf);refine ⟨(n2, (v17, w64 (v18 + 1))), hl2, Sub.eq rfl ?_ ?_, Nat.lt_succ_self _⟩
      ·(repeat ((conv=>whnf);refine nr ?_));exact trivial
      ·exact trivial
    ·replace hl2 := ite_f hc22 hl2;(conv=>whnf);refine ⟨(), hl2, Sub.eq rfl ?_ ?_⟩
     ·(repeat ((conv=>whnf);refine nr ?_));exact trivial
     ·exact trivial
  ·clear h;rintro _ h;unfold slicesIndexFuncXXXXXX_k1 at h;(conv=>whnf);cases h;exact rfl
theorem slicesContainsFuncXXXXXXC {N : Nat} (hN : N ≤ 1073741824) {s1 : List LadderResult} {r : Bool} (h : slicesContainsFuncXXXXXX N s1 = some r) :
    ACalls Tryz.prog 86 [.d (.list 3 (List.map LadderResult.enc s1)), .d (.fn (.func 87) [] [.ref (.agg [.fn (.func 48) [] []])])] [] fun e os => e = .ret (.d (.bool r)) ∧ os = [] := by
  refine acalls_f (fresh := false) tt_ok dr_ok ⟨[], [], [], [], [], 0, []⟩ Tryz.func86 rfl Tryz.call86 rfl ?_
  unfold slicesContainsFuncXXXXXX at h
  obtain ⟨r2, hx2, h⟩ := obind h;(conv=>whnf);refine CallG.pure _ (slicesIndexFuncXXXXXXC hN hx2) ?_;(conv=>whnf);cases h;exact rfl
theorem ladderAllC {N : Nat} (hN : N ≤ 1073741824) {l1 : List LadderResult} {r : Bool} (h : ladderAll N l1 = some r) :
    ACalls Tryz.prog 51 [.d (.list 3 (List.map LadderResult.enc l1)), .d (.fn (.func 48) [] [])] [] fun e os => e = .ret (.d (.bool r)) ∧ os = [] := by
  refine acalls_f (fresh := false) tt_ok dr_ok ⟨[3], [], [], [], [], 0, []⟩ Tryz.func51 rfl Tryz.call51 rfl ?_
  unfold ladderAll at h
  obtain ⟨r2, hx2, h⟩ := obind h;(conv=>whnf);refine CallG.pure _ (slicesContainsFuncXXXXXXC hN hx2) ?_;(conv=>whnf);cases h;exact rfl
theorem ladderWithinC {N : Nat} (hN : N ≤ 1073741824) {n1 : Int} {low1 : Int} {high1 : Int} {r : Bool} (h : ladderWithin N n1 low1 high1 = some r) :
    ACalls Tryz.prog 50 [.d (I n1), .d (I low1), .d (I high1)] [] fun e os => e = .ret (.d (.bool r)) ∧ os = [] := by
  refine acalls_f (fresh := false) tt_ok dr_ok ⟨[], [], [], [], [1], 0, []⟩ Tryz.func50 rfl Tryz.call50 rfl ?_
  unfold ladderWithin at h
  obtain ⟨v1, hx1, h⟩ := obind h;(conv=>whnf);refine SeqG.mk Unit (fun y => [(6, .d (.bool v1))]) (fun y => []) (fun _ => True) ?_ ?_
  ·(conv=>whnf);refine Br.mk (fun hc2 => ?_) (fun hc2 => ?_)
   ·replace hx1 := ite_t hc2 hx1;cases hx1;(conv=>whnf);refine ⟨(), trivial, Sub.eq rfl ?_ ?_⟩
    ·(repeat ((conv=>whnf);refine nr ?_));exact trivial
    ·exact trivial
   ·replace hx1 := ite_f hc2 hx1;cases hx1;(conv=>whnf);refine ⟨(), trivial, Sub.eq rfl ?_ ?_⟩
    ·(repeat ((conv=>whnf);refine nr ?_));exact trivial
    ·exact trivial
  ·rintro _ _;(conv=>whnf);cases h;exact rfl
theorem ladderCupCheckC {N : Nat} (hN : N ≤ 1073741824) {c1 : LadderCup} {r : Int} (h : ladderCupCheck N c1 = some r) :
    ACalls Tryz.prog 52 [.d (.agg [.int .u8 c1.fForm, I c1.fPlayers, I c1.fGames, .list 3 (List.map LadderResult.enc c1.fResults)])] [] fun e os => e = .ret (.d (I r)) ∧ os = [] := by
  refine acalls_f (fresh := false) tt_ok dr_ok ⟨[1], [], [], [], [1], 0, []⟩ Tryz.func52 rfl Tryz.call52 rfl ?_
  unfold ladderCupCheck at h
  obtain ⟨v2, hx8, h⟩ := obind h;(conv=>whnf);refine SeqG.mk Unit (fun y => [(23, .d (.bool v2))]) (fun y => []) (fun _ => True) ?_ ?_
  ·(conv=>whnf);refine Br.mk (fun hc11 => ?_) (fun hc11 => ?_)
   ·replace hx8 := ite_f hc11 hx8;obtain ⟨r7, hx9, hx8⟩ := obind hx8;(conv=>whnf);refine CallG.pure _ (ladderWithinC hN hx9) ?_;(conv=>whnf);refine Br.mk (fun hc12 => ?_) (fun hc12 => ?_)
    ·replace hx8 := ite_f hc12 hx8;obtain ⟨r8, hx10, hx8⟩ := obind hx8;(conv=>whnf);refine CallG.pure _ (ladderWithinC hN hx10) ?_;(conv=>whnf);refine Br.mk (fun hc13 => ?_) (fun hc13 => ?_)
     ·replace hx8 := ite_f hc13 hx8;(conv=>whnf);refine Need.mk (by decide) ?_;cases hx8;(conv=>whnf);refine ⟨(), trivial, Sub.eq rfl ?_ ?_⟩
      ·(repeat ((conv=>whnf);refine nr ?_));exact trivial
      ·exact trivial
     ·replace hx8 := ite_t hc13 hx8;cases hx8;(conv=>whnf);refine ⟨(), trivial, Sub.eq rfl ?_ ?_⟩
      ·(repeat ((conv=>whnf);refine nr ?_));exact trivial
      ·exact trivial
    ·replace hx8 := ite_t hc12 hx8;cases hx8;(conv=>whnf);refine ⟨(), trivial, Sub.eq rfl ?_ ?_⟩
     ·(repeat ((conv=>whnf);refine nr ?_));exact trivial
     ·exact trivial
   ·replace hx8 := ite_t hc11 hx8;cases hx8;(conv=>whnf);refine ⟨(), trivial, Sub.eq rfl ?_ ?_⟩
    ·(repeat ((conv=>whnf);refine nr ?_));exact trivial
    ·exact trivial
  ·rintro _ _;(conv=>whnf);refine Br.mk (fun hc14 => ?_) (fun hc14 => ?_)
   ·replace h := ite_t hc14 h;(conv=>whnf);cases h;exact rfl
   ·replace h := ite_f hc14 h;(conv=>whnf);cases h;exact rfl
theorem ladderCupDraw2C {N : Nat} (hN : N ≤ 1073741824) {r1 : LadderResult} {a1 : LadderCup} {r : Bool} (h : ladderCupDraw2 N r1 a1 = some r) :
    ACalls Tryz.prog 49 [.d (.agg [I r1.fMatch, .list 1 (List.map I r1.fGames), .bool r1.fProtested]), .d (.ref (.agg [.int .u8 a1.fForm, I a1.fPlayers, I a1.fGames, .list 3 (List.map LadderResult.enc a1.fResults)]))] [] fun e os => e = .ret (.d (.bool r)) ∧ os = [] := by
  refine acalls_f (fresh := false) tt_ok dr_ok ⟨[2], [], [], [], [1], 0, []⟩ Tryz.func49 rfl Tryz.call49 rfl ?_
  unfold ladderCupDraw2 at h
  obtain ⟨v1, hx2, h⟩ := obind h;(conv=>whnf);refine SeqG.mk Unit (fun y => [(3, .d (.bool v1))]) (fun y => []) (fun _ => True) ?_ ?_
  ·obtain ⟨r3, hx3, hx2⟩ := obind hx2;(conv=>whnf);refine CallG.pure _ (ladderWithinC hN hx3) ?_;(conv=>whnf);refine Br.mk (fun hc2 => ?_) (fun hc2 => ?_)
   ·replace hx2 := ite_t hc2 hx2;(conv=>whnf);refine LnA.mk _ (List.length_map _) ?_;cases hx2;(conv=>whnf);refine ⟨(), trivial, Sub.eq rfl ?_ ?_⟩
    ·(repeat ((conv=>whnf);refine nr ?_));exact trivial
    ·exact trivial
   ·replace hx2 := ite_f hc2 hx2;cases hx2;(conv=>whnf);refine ⟨(), trivial, Sub.eq rfl ?_ ?_⟩
    ·(repeat ((conv=>whnf);refine nr ?_));exact trivial
    ·exact trivial
  ·rintro _ _;(conv=>whnf);cases h;exact rfl
theorem ladderAll1XC {N : Nat} (hN : N ≤ 1073741824) {x1 : LadderResult} {a1 : LadderCup} {r : Bool} (h : ladderAll1X N x1 a1 = some r) :
    ACalls Tryz.prog 87 [.d (.agg [I x1.fMatch, .list 1 (List.map I x1.fGames), .bool x1.fProtested]), .d (.ref (.agg [.fn (.func 49) [] [.ref (.agg [.int .u8 a1.fForm, I a1.fPlayers, I a1.fGames, .list 3 (List.map LadderResult.enc a1.fResults)])]]))] [] fun e os => e = .ret (.d (.bool r)) ∧ os = [] := by
  refine acalls_f (fresh := false) tt_ok dr_ok ⟨[2], [], [], [], [], 0, []⟩ Tryz.func87 rfl Tryz.call87 rfl ?_
  unfold ladderAll1X at h
  obtain ⟨r2, hx2, h⟩ := obind h;(conv=>whnf);refine CallG.pure _ (ladderCupDraw2C hN hx2) ?_;(conv=>whnf);cases h;exact rfl
theorem slicesIndexFuncXXXXXXXC {N : Nat} (hN : N ≤ 1073741824) {s1 : List LadderResult} {f1 : LadderCup} {r : Int} (h : slicesIndexFuncXXXXXXX N s1 f1 = some r) :
    ACalls Tryz.prog 118 [.d (.list 3 (List.map LadderResult.enc s1)), .d (.fn (.func 87) [] [.ref (.agg [.fn (.func 49) [] [.ref (.agg [.int .u8 f1.fForm, I f1.fPlayers, I f1.fGames, .list 3 (List.map LadderResult.enc f1.fResults)])]])])] [] fun e os => e = .ret (.d (I r)) ∧ os = [] := by
  refine acalls_f (fresh := false) tt_ok dr_ok ⟨[], [], [], [], [1001], 0, []⟩ Tryz.func118 rfl Tryz.call118 rfl ?_
  unfold slicesIndexFuncXXXXXXX at h
  (conv=>whnf);refine SeqG.mk Unit (fun y => []) (fun y => []) (fun y => slicesIndexFuncXXXXXXX_k1 N = some r) ?_ ?_
  ·(conv=>whnf);refine LnA.mk _ (List.length_map _) ?_;(conv=>whnf);refine LoopG.mk (Nat × (Int × Int)) (fun y => [(0, .d (.list 3 (List.map LadderResult.enc s1))), (1, .d (.fn (.func 87) [] [.ref (.agg [.fn (.func 49) [] [.ref (.agg [.int .u8 f1.fForm, I f1.fPlayers, I f1.fGames, .list 3 (List.map LadderResult.enc f1.fResults)])]])])), (7, .d (I y.2.1)), (8, .d (I y.2.2))]) (fun y => []) (fun y => loopN (fun rr x => slicesIndexFuncXXXXXXX_b2 N s1 f1 rr x.1 x.2) y.1 y.2 = some r) (fun y => y.1) (N, ((s1.length : Int), 0)) h (Sub.eq rfl ?_ ?_) ?_
   ·(repeat ((conv=>whnf);refine nr ?_));exact trivial
   ·exact trivial
   ·rintro ⟨n2, ⟨v17, v18⟩⟩ hl2;obtain ⟨n2, rfl, hl2⟩ := loopN_some hl2;replace hl2 : slicesIndexFuncXXXXXXX_b2 N s1 f1 (loopN (fun rr x => slicesIndexFuncXXXXXXX_b2 N s1 f1 rr x.1 x.2) n2) v17 v18 = some r := hl2;rw [slicesIndexFuncXXXXXXX_b2] at hl2;(conv=>whnf);refine Br.mk (fun hc22 => ?_) (fun hc22 => ?_)
    ·replace hl2 := ite_t hc22 hl2;obtain ⟨x24, hx47, hl2⟩ := obind hl2;(conv=>whnf);refine Side.mk rfl ⟨_, idx_0 hx47, idx_map _ hx47, ?_⟩;obtain ⟨r24, hx48, hl2⟩ := obind hl2;(conv=>whnf);refine CallG.pure _ (ladderAll1XC hN hx48) ?_;(conv=>whnf);refine Br.mk (fun hc24 => ?_) (fun hc24 => ?_)
     ·replace hl2 := ite_t hc24 hl2;(conv=>whnf);cases hl2;exact rfl
     ·replace hl2 := ite_f hc24 hl2;(conv=>whnf);refine ⟨(n2, (v17, w64 (v18 + 1))), hl2, Sub.eq rfl ?_ ?_, Nat.lt_succ_self _⟩
      ·(repeat ((conv=>whnf);refine nr ?_));exact trivial
      ·exact trivial
    ·replace hl2 := ite_f hc22 hl2;(conv=>whnf);refine ⟨(), hl2, Sub.eq rfl ?_ ?_⟩
     ·(repeat ((conv=>whnf);refine nr ?_));exact trivial
     ·exact trivial
  ·clear h;rintro _ h;unfold slicesIndexFuncXXXXXXX_k1 at h;(conv=>whnf);cases h;exact rfl
theorem slicesContainsFuncXXXXXXXC {N : Nat} (hN : N ≤ 1073741824) {s1 : List LadderResult} {f1 : LadderCup} {r : Bool} (h : slicesContainsFuncXXXXXXX N s1 f1 = some r) :
    ACalls Tryz.prog 86 [.d (.list 3 (List.map LadderResult.enc s1)), .d (.fn (.func 87) [] [.ref (.agg [.fn (.func 49) [] [.ref (.agg [.int .u8 f1.fForm, I f1.fPlayers, I f1.fGames, .list 3 (List.map LadderResult.enc f1.fResults)])]])])] [] fun e os => e = .ret (.d (.bool r)) ∧ os = [] := by
  refine acalls_f (fresh := false) tt_ok dr_ok ⟨[], [], [], [], [], 0, []⟩ Tryz.func86 rfl Tryz.call86 rfl ?_
  unfold slicesContainsFuncXXXXXXX at h
  obtain ⟨r2, hx2, h⟩ := obind h;(conv=>whnf);refine CallG.pure _ (slicesIndexFuncXXXXXXXC hN hx2) ?_;(conv=>whnf);cases h;exact rfl
theorem ladderAllXC {N : Nat} (hN : N ≤ 1073741824) {l1 : List LadderResult} {right1 : LadderCup} {r : Bool} (h : ladderAllX N l1 right1 = some r) :
    ACalls Tryz.prog 51 [.d (.list 3 (List.map LadderResult.enc l1)), .d (.fn (.func 49) [] [.ref (.agg [.int .u8 right1.fForm, I right1.fPlayers, I right1.fGames, .list 3 (List.map LadderResult.enc right1.fResults)])])] [] fun e os => e = .ret (.d (.bool r)) ∧ os = [] := by
  refine acalls_f (fresh := false) tt_ok dr_ok ⟨[3], [], [], [], [], 0, []⟩ Tryz.func51 rfl Tryz.call51 rfl ?_
  unfold ladderAllX at h
  obtain ⟨r2, hx2, h⟩ := obind h;(conv=>whnf);refine CallG.pure _ (slicesContainsFuncXXXXXXXC hN hx2) ?_;(conv=>whnf);cases h;exact rfl
theorem ladderPlayerC {N : Nat} (hN : N ≤ 1073741824) {n1 : Int} {r : LadderSide} (h : ladderPlayer N n1 = some r) :
    ACalls Tryz.prog 119 [.d (I n1)] [] fun e os => e = .ret (.d (.agg [I r.fPlayer, I r.fMatch])) ∧ os = [] := by
  refine acalls_f (fresh := false) tt_ok dr_ok ⟨[], [], [], [], [], 0, []⟩ Tryz.func119 rfl Tryz.call119 rfl ?_
  unfold ladderPlayer at h
  (conv=>whnf);intro b2;(conv=>whnf);refine sr ?_;(conv=>whnf);refine sr ?_;(conv=>whnf);cases h;exact rfl
theorem ladderWinnerXC {N : Nat} (hN : N ≤ 1073741824) {n1 : Int} {r : LadderSide} (h : ladderWinnerX N n1 = some r) :
    ACalls Tryz.prog 120 [.d (I n1)] [] fun e os => e = .ret (.d (.agg [I r.fPlayer, I r.fMatch])) ∧ os = [] := by
  refine acalls_f (fresh := false) tt_ok dr_ok ⟨[], [], [], [], [], 0, []⟩ Tryz.func120 rfl Tryz.call120 rfl ?_
  unfold ladderWinnerX at h
  (conv=>whnf);intro b2;(conv=>whnf);refine sr ?_;(conv=>whnf);refine sr ?_;(conv=>whnf);cases h;exact rfl
theorem ladderCupLadderC {N : Nat} (hN : N ≤ 1073741824) {c1 : LadderCup} {r : (List LadderPair)} (h : ladderCupLadder N c1 = some r) :
    ACalls Tryz.prog 88 [.d (.agg [.int .u8 c1.fForm, I c1.fPlayers, I c1.fGames, .list 3 (List.map LadderResult.enc c1.fResults)])] [] fun e os => e = .ret (.d (.list 4 (List.map LadderPair.enc r))) ∧ os = [] := by
  refine acalls_f (fresh := false) tt_ok dr_ok ⟨[1], [], [], [], [1003], 0, []⟩ Tryz.func88 rfl Tryz.call88 rfl ?_
  unfold ladderCupLadder at h
  obtain ⟨r3, hx3, h⟩ := obind h;(conv=>whnf);refine CallG.pure _ (ladderPlayerC hN hx3) ?_;obtain ⟨r4, hx4, h⟩ := obind h;(conv=>whnf);refine CallG.pure _ (ladderPlayerC hN hx4) ?_;(conv=>whnf);intro hd2;obtain ⟨l12, hx23, h⟩ := obind h;(conv=>whnf);refine SeqG.mk Value (fun y => [(4, .sl 15 y)]) (fun y => [(15, .arr y 171 4 false (List.map LadderPair.enc l12))]) (fun _ => True) ?_ ?_
  ·(conv=>whnf);refine LoopG.mk (Nat × (Int × Int × (List LadderPair)) × Value) (fun y => [(3, .d (I y.2.1.1)), (4, .sl 15 y.2.2), (5, .d (I y.2.1.2.1))]) (fun y => [(15, .arr y.2.2 171 4 false (List.map LadderPair.enc y.2.1.2.2))]) (fun y => loopN (fun rr x => ladderCupLadder_b1 N rr x.1 x.2.1 x.2.2) y.1 y.2.1 = some l12) (fun y => y.1) (N, (w64 (c1.fPlayers - 1), 1, [(LadderPair.mk r3 r4)]), hd2) hx23 (Sub.eq rfl ?_ ?_) ?_
   ·(repeat ((conv=>whnf);refine nr ?_));exact trivial
   ·(conv=>whnf);refine no ?_;exact trivial
   ·rintro ⟨n10, ⟨last10, n9, l21⟩, hd31⟩ hl2;obtain ⟨n10, rfl, hl2⟩ := loopN_some hl2;replace hl2 : ladderCupLadder_b1 N (loopN (fun rr x => ladderCupLadder_b1 N rr x.1 x.2.1 x.2.2) n10) last10 n9 l21 = some l12 := hl2;rw [ladderCupLadder_b1] at hl2;(conv=>whnf);refine Br.mk (fun hc12 => ?_) (fun hc12 => ?_)
    ·replace hl2 := ite_t hc12 hl2;obtain ⟨r27, hx39, hl2⟩ := obind hl2;(conv=>whnf);refine CallG.pure _ (ladderPlayerC hN hx39) ?_;obtain ⟨r28, hx40, hl2⟩ := obind hl2;(conv=>whnf);refine CallG.pure _ (ladderWinnerXC hN hx40) ?_;(conv=>whnf);intro hd34;obtain ⟨l23, hx41, hl2⟩ := obind hl2;(conv=>whnf);refine Side.mk ⟨rfl, rfl⟩ ?_;(conv=>whnf);refine Side.mk ⟨rfl, rfl, rfl⟩ (Need.mk (app_need hN hx41 (by decide)) (Eqv.mk (List.map LadderPair.enc l23) (app_map _ hx41) ?_));(conv=>whnf);intro hd35;(conv=>whnf);refine ⟨(n10, (last10, w64 (n9 + 1), l23), hd35), hl2, Sub.eq rfl ?_ ?_, Nat.lt_succ_self _⟩
     ·(repeat ((conv=>whnf);refine nr ?_));exact trivial
     ·(conv=>whnf);refine no ?_;exact trivial
    ·replace hl2 := ite_f hc12 hl2;cases hl2;(conv=>whnf);refine ⟨hd31, trivial, Sub.eq rfl ?_ ?_⟩
     ·(repeat ((conv=>whnf);refine nr ?_));exact trivial
     ·(conv=>whnf);refine no ?_;exact trivial
  ·rintro hd19 _;(conv=>whnf);refine sr ?_;(conv=>whnf);cases h;exact rfl
theorem ladderCupOrder1C_n {N : Nat} (hN : N ≤ 1073741824) (nrec : Nat) : ∀ {l1 : List Int} {a1 : LadderCup} {c1 : LadderCup} {bo1 : Nat} {r : (List Int)} (h : loopN (fun rr x => ladderCupOrder1_f N rr x.1 x.2.1 x.2.2) nrec (l1, a1, c1) = some r),
    ACalls Tryz.prog 142 [.d (.list 1 (List.map I l1)), .d (.ref (.agg [.int .u8 a1.fForm, I a1.fPlayers, I a1.fGames, .list 3 (List.map LadderResult.enc a1.fResults)])), .ptr 3 bo1 0] [(3, .cells bo1 [.fn (.func 142) [] [.d (.ref (.agg [.int .u8 c1.fForm, I c1.fPlayers, I c1.fGames, .list 3 (List.map LadderResult.enc c1.fResults)])), .ptr 3 bo1 0]])] fun ae os => ∃ y : Unit, True ∧ ae = .ret (.d (.list 1 (List.map I r))) ∧ os = [(3, .cells bo1 [.fn (.func 142) [] [.d (.ref (.agg [.int .u8 c1.fForm, I c1.fPlayers, I c1.fGames, .list 3 (List.map LadderResult.enc c1.fResults)])), .ptr 3 bo1 0]])] := by
  induction nrec with
  | zero => intro l1 a1 c1 bo1 r h; cases h
  | succ nrec ih =>
  intro l1 a1 c1 bo1 r h
  replace h : ladderCupOrder1_f N (loopN (fun rr x => ladderCupOrder1_f N rr x.1 x.2.1 x.2.2) nrec) l1 a1 c1 = some r := h
  refine acalls_own (fresh := false) tt_ok dr_ok ⟨[], [], [], [], [1004], 10000, []⟩ Tryz.func142 rfl Tryz.call142 rfl ?_
  unfold ladderCupOrder1_f at h
  (conv=>whnf);refine LnA.mk _ (List.length_map _) ?_;(conv=>whnf);refine Br.mk (fun hc2 => ?_) (fun hc2 => ?_)
  ·replace h := ite_t hc2 h;(conv=>whnf);cases h;exact ⟨(), trivial, rfl, inO_at (ren := id) (And.intro rfl trivial)⟩
  ·replace h := ite_f hc2 h;obtain ⟨l12, hx19, h⟩ := obind h;(conv=>whnf);refine SeqG.mk Value (fun y => [(2, .ptr 3 bo1 0), (5, .sl 10029 y)]) (fun y => [(3, .cells bo1 [.fn (.func 142) [] [.d (.ref (.agg [.int .u8 c1.fForm, I c1.fPlayers, I c1.fGames, .list 3 (List.map LadderResult.enc c1.fResults)])), .ptr 3 bo1 0]]), (10029, .arr y 3 1 false (List.map I l12))]) (fun _ => True) ?_ ?_
   ·(conv=>whnf);refine LnA.mk _ (List.length_map _) ?_;(conv=>whnf);refine LoopG.mk (Nat × (Int × Int × (List Int)) × Value) (fun y => [(0, .d (.list 1 (List.map I l1))), (2, .ptr 3 bo1 0), (5, .sl 10029 y.2.2), (14, .d (.list 1 (List.map I l1))), (15, .d (I y.2.1.1)), (16, .d (I y.2.1.2.1))]) (fun y => [(3, .cells bo1 [.fn (.func 142) [] [.d (.ref (.agg [.int .u8 c1.fForm, I c1.fPlayers, I c1.fGames, .list 3 (List.map LadderResult.enc c1.fResults)])), .ptr 3 bo1 0]]), (10029, .arr y.2.2 3 1 false (List.map I y.2.1.2.2))]) (fun y => loopN (fun rr x => ladderCupOrder1_b1 N l1 rr x.1 x.2.1 x.2.2) y.1 y.2.1 = some l12) (fun y => y.1) (N, ((l1.length : Int), 0, []), (.slice none 0 0)) hx19 (Sub.eq rfl ?_ ?_) ?_
    ·(repeat ((conv=>whnf);refine nr ?_));exact trivial
    ·(conv=>whnf);refine no ?_;(conv=>whnf);refine Need.mk (OLe.nil _ _ _ _) ?_;exact trivial
    ·rintro ⟨n2, ⟨v17, v18, l20⟩, hd29⟩ hl2;obtain ⟨n2, rfl, hl2⟩ := loopN_some hl2;replace hl2 : ladderCupOrder1_b1 N l1 (loopN (fun rr x => ladderCupOrder1_b1 N l1 rr x.1 x.2.1 x.2.2) n2) v17 v18 l20 = some l12 := hl2;rw [ladderCupOrder1_b1] at hl2;(conv=>whnf);refine Br.mk (fun hc14 => ?_) (fun hc14 => ?_)
     ·replace hl2 := ite_t hc14 hl2;obtain ⟨x24, hx36, hl2⟩ := obind hl2;(conv=>whnf);refine Side.mk rfl ⟨_, idx_0 hx36, idx_map _ hx36, ?_⟩;(conv=>whnf);refine LnA.mk _ (List.length_map _) ?_;(conv=>whnf);intro hd32;obtain ⟨l22, hx37, hl2⟩ := obind hl2;(conv=>whnf);refine Side.mk ⟨rfl, rfl⟩ ?_;(conv=>whnf);refine Side.mk ⟨rfl, rfl, rfl⟩ (Need.mk (app_need hN hx37 (by decide)) (Eqv.mk (List.map I l22) (app_map _ hx37) ?_));(conv=>whnf);intro hd33;(conv=>whnf);refine ⟨(n2, (v17, w64 (v18 + 1), l22), hd33), hl2, Sub.eq rfl ?_ ?_, Nat.lt_succ_self _⟩
      ·(repeat ((conv=>whnf);refine nr ?_));exact trivial
      ·(conv=>whnf);refine no ?_;(conv=>whnf);refine no ?_;exact trivial
     ·replace hl2 := ite_f hc14 hl2;cases hl2;(conv=>whnf);refine ⟨hd29, trivial, Sub.eq rfl ?_ ?_⟩
      ·(repeat ((conv=>whnf);refine nr ?_));exact trivial
      ·(conv=>whnf);refine no ?_;(conv=>whnf);refine no ?_;exact trivial
   ·rintro hd17 _;(conv=>whnf);refine sr ?_;obtain ⟨r2, hx39, h⟩ := obind h;(conv=>whnf);refine sr ?_;(conv=>whnf);refine CallG.own (ih (bo1 := bo1) hx39) id [(10029, .arr hd17 3 1 true (List.map I l12))] _ (fun y => [(3, .cells bo1 [.fn (.func 142) [] [.d (.ref (.agg [.int .u8 c1.fForm, I c1.fPlayers, I c1.fGames, .list 3 (List.map LadderResult.enc c1.fResults)])), .ptr 3 bo1 0]]), (10029, .arr hd17 3 1 true (List.map I l12))]) (all2_le_refl _) (And.intro rfl trivial) rfl (And.intro rfl trivial) (And.intro rfl trivial) (fun _ => AV.le_refl _) (fun _ => rfl) ?_;rintro _ _;(conv=>whnf);cases h;exact ⟨(), trivial, rfl, inO_at (ren := id) (And.intro rfl trivial)⟩
theorem ladderCupOrder1C {N : Nat} (hN : N ≤ 1073741824) {l1 : List Int} {a1 : LadderCup} {c1 : LadderCup} {bo1 : Nat} {r : (List Int)} (h : ladderCupOrder1 N l1 a1 c1 = some r) :
    ACalls Tryz.prog 142 [.d (.list 1 (List.map I l1)), .d (.ref (.agg [.int .u8 a1.fForm, I a1.fPlayers, I a1.fGames, .list 3 (List.map LadderResult.enc a1.fResults)])), .ptr 3 bo1 0] [(3, .cells bo1 [.fn (.func 142) [] [.d (.ref (.agg [.int .u8 c1.fForm, I c1.fPlayers, I c1.fGames, .list 3 (List.map LadderResult.enc c1.fResults)])), .ptr 3 bo1 0]])] fun ae os => ∃ y : Unit, True ∧ ae = .ret (.d (.list 1 (List.map I r))) ∧ os = [(3, .cells bo1 [.fn (.func 142) [] [.d (.ref (.agg [.int .u8 c1.fForm, I c1.fPlayers, I c1.fGames, .list 3 (List.map LadderResult.enc c1.fResults)])), .ptr 3 bo1 0]])] := ladderCupOrder1C_n hN N h
theorem ladderCupOrderC {N : Nat} (hN : N ≤ 1073741824) {c1 : LadderCup} {r : (List Int)} (h : ladderCupOrder N c1 = some r) :
    ACalls Tryz.prog 121 [.d (.agg [.int .u8 c1.fForm, I c1.fPlayers, I c1.fGames, .list 3 (List.map LadderResult.enc c1.fResults)])] [] fun e os => e = .ret (.d (.list 1 (List.map I r))) ∧ os = [] := by
  refine acalls_f (fresh := false) tt_ok dr_ok ⟨[1], [], [], [], [], 0, []⟩ Tryz.func121 rfl Tryz.call121 rfl ?_
  unfold ladderCupOrder at h
  (conv=>whnf);intro b2;(conv=>whnf);refine sr ?_;(conv=>whnf);refine sr ?_;(conv=>whnf);intro hd2;obtain ⟨r2, hx2, h⟩ := obind h;(conv=>whnf);refine sr ?_;(conv=>whnf);refine CallG.own (ladderCupOrder1C (bo1 := b2) hN hx2) id [(6, .arr hd2 3 1 true (List.map I ([0])))] _ (fun y => [(3, .cells b2 [.fn (.func 142) [] [.d (.ref (.agg [.int .u8 c1.fForm, I c1.fPlayers, I c1.fGames, .list 3 (List.map LadderResult.enc c1.fResults)])), .ptr 3 b2 0]]), (6, .arr hd2 3 1 true (List.map I ([0])))]) (all2_le_refl _) (And.intro rfl trivial) rfl (And.intro rfl trivial) (And.intro rfl trivial) (fun _ => AV.le_refl _) (fun _ => rfl) ?_;rintro _ _;(conv=>whnf);cases h;exact rfl
theorem slicesChunkC {N : Nat} (hN : N ≤ 1073741824) {s1 : List LadderSide} {n1 : Int} {r : (List LadderSide) × Int} (h : slicesChunk N s1 n1 = some r) :
    ACalls Tryz.prog 122 [.d (.list 2 (List.map LadderSide.enc s1)), .d (I n1)] [] fun e os => e = .ret (.d (.fn (.func 143) [] [.ref (.agg [.list 2 (List.map LadderSide.enc r.1)]), .ref (.agg [I r.2])])) ∧ os = [] := by
  refine acalls_f (fresh := false) tt_ok dr_ok ⟨[2, 3], [], [], [], [], 0, []⟩ Tryz.func122 rfl Tryz.call122 rfl ?_
  unfold slicesChunk at h
  (conv=>whnf);refine Br.mk (fun hc2 => ?_) (fun hc2 => ?_)
  ·replace h := ite_t hc2 h;cases h
  ·replace h := ite_f hc2 h;(conv=>whnf);cases h;exact rfl
end Go.Proofs.YtignpdbcgjllkaaGreat
