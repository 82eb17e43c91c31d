/-
  Walks: what the typed functions compute, the program’s functions return.
-/
import Derived.Test.YtiaoloodgildeaaGreatDoorWe
import Derived.Test.YtiaoloodgildeaaGreatDoorVa
import Derived.Test.YtiaoloodgildeaaGreatDoorVb
namespace Go.Proofs.YtiaoloodgildeaaGreatDoor
open Go Go.Abs Go.Kp
set_option maxRecDepth 100000
set_option maxHeartbeats 8000000
set_option linter.all false
def deskWorkStrikeP (bo1 : Nat) : (DeskRefusal × DeskWork) ⊕ DeskWork → AE → List (Nat × Ob) → Prop
  | .inl r => fun ae os => ∃ y : Unit, True ∧ ae = .pan (.ifc 260 (.agg [I r.1.fE])) ∧ os = [kW bo1 r.2]
  | .inr r => fun ae os => ∃ y : Unit, True ∧ ae = .ret (.d (.tup [])) ∧ os = [kW bo1 r]
theorem deskWorkStrikeC {N : Nat} (hN : N ≤ 1073741824) {n1 : List Int} {c1 : DeskWork} {bo1 : Nat} {r : (DeskRefusal × DeskWork) ⊕ DeskWork} (h : deskWorkStrike N n1 c1 = some r) :
    ACalls Tryz.prog 238 [.ptr 540003 bo1 0, .d (.list 1 (List.map I n1))] [kW bo1 c1] (deskWorkStrikeP bo1 r) := by
  refine acalls_pred (fresh := false) tt_ok dr_ok ⟨[], [], [44, 100540003], [], [], 550000, []⟩ Tryz.func238 rfl Tryz.call238 rfl ?_
  unfold deskWorkStrike at h
  obtain ⟨x2, hx4, h⟩ := obind h;(conv=>whnf);refine DrawG.mk (.take 0 (.take 1 (.take 2 (.take 3 (.take 4 (.take 5 (.take 6 (.take 7 (.take 8 (.alt 9 [7, 6, 5, 4, 3, 1, 0] (.alt 10 [7, 6, 5, 4, 3, 1, 0] .done .nil) .nil)))))))))) (by kernel_rfl) ?_;(conv=>whnf);refine Side.mk rfl ⟨_, idx_0 hx4, idx_map _ hx4, ?_⟩;(conv=>whnf);refine sr ?_;(conv=>whnf);refine LnA.mk _ (List.length_map _) ?_;(conv=>whnf);refine Both.mk ?_ trivial;obtain ⟨r3, hx5, h⟩ := obind h;(conv=>whnf);refine CallG.pure _ (deskWithinC hN hx5) ?_;(conv=>whnf);refine sr ?_;(iterate 5 ((conv=>whnf);refine nl ?_));(conv=>whnf);refine Side.mk rfl ⟨_, idx_0 hx4, idx_map _ hx4, ?_⟩;(iterate 2 ((conv=>whnf);refine nl ?_));(conv=>whnf);refine Both.mk ?_ trivial;obtain ⟨z2, hx6, h⟩ := obind h;rcases z2 with r4 | _
  ·(conv=>whnf);refine CallG.panic (deskAskC hN hx6) id [kW bo1 c1] (fun y => [kW bo1 c1]) (all2_le_refl _) trivial rfl trivial (ai trivial) (fun _ => rfl) ?_;rintro _ _
   (conv=>whnf);refine Side.mk (by kernel_rfl) ?_;(conv=>whnf);cases h;exact ⟨_, ⟨(), trivial, rfl, rfl⟩, inO_at (ren := id) (ai trivial)⟩
  ·(conv=>whnf)
   refine CallG.own (deskAskC hN hx6) id [kW bo1 c1] _ (fun y => [kW bo1 c1]) (all2_le_refl _) trivial rfl trivial (ai trivial) (fun _ => AV.le_refl _) (fun _ => rfl) ?_;rintro _ _
   (conv=>whnf);refine sr ?_;(iterate 5 ((conv=>whnf);refine nl ?_));(conv=>whnf);refine Side.mk rfl ⟨_, idx_0 hx4, idx_map _ hx4, ?_⟩;(iterate 2 ((conv=>whnf);refine nl ?_));(conv=>whnf);refine DrawG.mk (.take 0 (.take 1 (.take 2 (.take 3 (.take 4 (.take 5 (.take 6 (.take 7 (.alt 8 [6, 5, 3, 2, 1, 0] (.take 9 (.take 10 (.take 11 (.take 12 (.take 13 .done))))) .nil))))))))) (by kernel_rfl) ?_;(conv=>whnf);refine sr ?_;(conv=>whnf);refine Side.mk rfl ⟨_, idx_0 hx4, idx_map _ hx4, ?_⟩;(conv=>whnf);refine Both.mk ?_ trivial;obtain ⟨⟨ra2, rb2⟩, hx8, h⟩ := obind h;(conv=>whnf);refine CallG.pure _ (slicesBinarySearchC hN hx8) ?_;(conv=>whnf);refine Side.mk rfl ⟨_, idx_0 hx4, idx_map _ hx4, ?_⟩;(iterate 3 ((conv=>whnf);refine nl ?_));(conv=>whnf)
   refine nl ?_;(iterate 2 ((conv=>whnf);refine nl ?_));obtain ⟨z4, hx10, h⟩ := obind h;rcases z4 with r6 | _
   ·(conv=>whnf);refine CallG.panic (deskAskC hN hx10) id [kW bo1 c1] (fun y => [kW bo1 c1]) (all2_le_refl _) trivial rfl trivial (ai trivial) (fun _ => rfl) ?_;rintro _ _
    (conv=>whnf);cases h;exact ⟨_, ⟨(), trivial, rfl, rfl⟩, inO_at (ren := id) (ai trivial)⟩
   ·(conv=>whnf)
    refine CallG.own (deskAskC hN hx10) id [kW bo1 c1] _ (fun y => [kW bo1 c1]) (all2_le_refl _) trivial rfl trivial (ai trivial) (fun _ => AV.le_refl _) (fun _ => rfl) ?_
    rintro _ _;obtain ⟨r7, hx11, h⟩ := obind h;(conv=>whnf);refine DrawG.mk (.take 0 (.take 1 (.take 2 (.take 3 (.take 4 (.take 5 (.take 7 (.take 8 (.take 9 (.take 10 (.alt 6 [10, 9, 8, 7, 4, 3, 2, 1, 0] (.alt 11 [9, 8, 7, 4, 3, 2, 1, 0] (.alt 12 [9, 8, 4, 3, 2, 1, 0] (.take 13 (.take 14 (.take 15 (.alt 16 [14, 13] .done .nil)))) .nil) .nil) (.alt 11 [9, 8, 7, 5, 4, 3, 2, 1, 0] (.alt 6 [9, 8, 7, 4, 3, 2, 1, 0] (.alt 12 [9, 8, 4, 3, 2, 1, 0] (.take 13 (.take 14 (.take 15 (.alt 16 [14, 13] .done .nil)))) .nil) .nil) .nil)))))))))))) (by kernel_rfl) ?_;(conv=>whnf);refine sr ?_;(conv=>whnf);refine Side.mk rfl ⟨_, idx_0 hx4, idx_map _ hx4, ?_⟩;(conv=>whnf);refine Both.mk ?_ ?_
    ·(conv=>whnf);refine CallG.fresh 550038 (slicesCloneC hN hx11) ?_;intro hd3;(conv=>whnf);refine nl ?_;(conv=>whnf);refine Side.mk rfl ⟨_, idx_0 hx4, idx_map _ hx4, ?_⟩;(iterate 8 ((conv=>whnf);refine nl ?_));(conv=>whnf);refine Both.mk ?_ trivial;(conv=>whnf);intro hd4;(conv=>whnf);refine Side.mk rfl ⟨_, idx_0 hx4, idx_map _ hx4, ?_⟩;(iterate 8 ((conv=>whnf);refine nl ?_));(conv=>whnf);refine Both.mk ?_ trivial;obtain ⟨r8, hx12, h⟩ := obind h;(conv=>whnf)
     refine CallG.own (insZC (k := 550038) (k2 := 550043) (ho := hd3) (ho2 := hd4) hN hx12) id [kW bo1 c1] _ (fun y => [(550038, .arr y 3 1 false (List.map I r8)), (550043, .arr hd4 3 1 false (List.map I ([x2]))), kW bo1 c1]) (all2_le_refl _) (ai (ai trivial)) rfl (ai (ai trivial)) (ai trivial) (fun _ => AV.le_refl _) (fun _ => rfl) ?_
     rintro hd5 _;(conv=>whnf);refine Side.mk rfl ⟨_, idx_0 hx4, idx_map _ hx4, ?_⟩;(iterate 7 ((conv=>whnf);refine nl ?_));(conv=>whnf);refine Both.mk ?_ trivial;(conv=>whnf);refine sr ?_;(iterate 2 ((conv=>whnf);refine nl ?_));(iterate 2 ((conv=>whnf);refine sr ?_));(conv=>whnf);cases h;exact ⟨_, ⟨(), trivial, rfl, rfl⟩, inO_at (ren := id) (ai trivial)⟩
    ·(conv=>whnf);refine Both.mk ?_ trivial;(conv=>whnf);intro hd6;(conv=>whnf);refine Side.mk rfl ⟨_, idx_0 hx4, idx_map _ hx4, ?_⟩;(iterate 3 ((conv=>whnf);refine nl ?_));(conv=>whnf);refine sr ?_;(iterate 6 ((conv=>whnf);refine nl ?_));(conv=>whnf);refine Both.mk ?_ trivial;(conv=>whnf);refine CallG.fresh 550038 (slicesCloneC hN hx11) ?_;intro hd7;(conv=>whnf);refine Side.mk rfl ⟨_, idx_0 hx4, idx_map _ hx4, ?_⟩;(iterate 8 ((conv=>whnf);refine nl ?_));(conv=>whnf);refine Both.mk ?_ trivial;obtain ⟨r9, hx13, h⟩ := obind h;(conv=>whnf)
     refine CallG.own (insZC (k := 550038) (k2 := 550043) (ho := hd7) (ho2 := hd6) hN hx13) id [kW bo1 c1] _ (fun y => [(550038, .arr y 3 1 false (List.map I r9)), (550043, .arr hd6 3 1 false (List.map I ([x2]))), kW bo1 c1]) (all2_le_refl _) (ai (ai trivial)) rfl (ai (ai trivial)) (ai trivial) (fun _ => AV.le_refl _) (fun _ => rfl) ?_
     rintro hd8 _;(conv=>whnf);refine Side.mk rfl ⟨_, idx_0 hx4, idx_map _ hx4, ?_⟩;(iterate 7 ((conv=>whnf);refine nl ?_));(conv=>whnf);refine Both.mk ?_ trivial;(conv=>whnf);refine sr ?_;(iterate 2 ((conv=>whnf);refine nl ?_));(iterate 2 ((conv=>whnf);refine sr ?_));(conv=>whnf);cases h;exact ⟨_, ⟨(), trivial, rfl, rfl⟩, inO_at (ren := id) (ai trivial)⟩
theorem deskWorkCupC {N : Nat} (hN : N ≤ 1073741824) {c1 : DeskWork} {bo1 : Nat} {r : LadderCup} (h : deskWorkCup N c1 = some r) :
    ACalls Tryz.prog 76 [.ptr 540003 bo1 0] [kW bo1 c1] fun ae os => ∃ y : Unit, True ∧ ae = .ret (.d (.agg [.int .u8 r.fForm, I r.fPlayers, I r.fGames, .list 3 (List.map LadderResult.enc r.fResults)])) ∧ os = [kW bo1 c1] := by
  refine acalls_own (fresh := false) tt_ok dr_ok ⟨[], [], [], [], [], 550000, []⟩ Tryz.func76 rfl Tryz.call76 rfl ?_
  unfold deskWorkCup at h
  (conv=>whnf);intro b2;(conv=>whnf);refine DrawG.mk (.take 0 (.take 1 (.take 2 (.take 3 (.take 4 (.take 5 (.take 6 (.take 7 (.take 8 (.take 9 (.take 10 (.alt 11 [9, 8, 7, 6, 4, 3, 2, 1, 0] (.alt 12 [] .done .nil) .nil)))))))))))) (by kernel_rfl) ?_;(conv=>whnf);refine sr ?_;(conv=>whnf);refine LnA.mk _ (List.length_map _) ?_;(conv=>whnf);refine sr ?_;(conv=>whnf);refine Both.mk ?_ trivial;(iterate 4 ((conv=>whnf);refine nl ?_));(conv=>whnf);refine sr ?_;(iterate 5 ((conv=>whnf);refine nl ?_));(conv=>whnf);refine Both.mk ?_ trivial;(iterate 2 ((conv=>whnf);refine sr ?_));(conv=>whnf);cases h;exact ⟨(), trivial, rfl, inO_at (ren := id) (ai trivial)⟩
theorem ladderCupDraw1C {N : Nat} (hN : N ≤ 1073741824) {r1 : LadderResult} {r : Bool} (h : ladderCupDraw1 N r1 = some r) :
    ACalls Tryz.prog 132 [.d (.agg [I r1.fMatch, .list 1 (List.map I r1.fGames), .bool r1.fProtested])] [] fun e os => e = .ret (.d (.bool r)) ∧ os = [] := by
  refine acalls_f (fresh := false) tt_ok dr_ok ⟨[1], [], [], [], [], 0, []⟩ Tryz.func132 rfl Tryz.call132 rfl ?_
  unfold ladderCupDraw1 at h
  (conv=>whnf);refine LnA.mk _ (List.length_map _) ?_;(conv=>whnf);cases h;exact rfl
theorem ladderAll1C {N : Nat} (hN : N ≤ 1073741824) {x1 : LadderResult} {r : Bool} (h : ladderAll1 N x1 = some r) :
    ACalls Tryz.prog 174 [.d (.agg [I x1.fMatch, .list 1 (List.map I x1.fGames), .bool x1.fProtested]), .d (.ref (.agg [.fn (.func 132) [] []]))] [] fun e os => e = .ret (.d (.bool r)) ∧ os = [] := by
  refine acalls_f (fresh := false) tt_ok dr_ok ⟨[2], [], [], [], [], 0, []⟩ Tryz.func174 rfl Tryz.call174 rfl ?_
  unfold ladderAll1 at h
  obtain ⟨r2, hx2, h⟩ := obind h;(conv=>whnf);refine CallG.pure _ (ladderCupDraw1C hN hx2) ?_;(conv=>whnf);cases h;exact rfl
theorem slicesIndexFuncXXC {N : Nat} (hN : N ≤ 1073741824) {s1 : List LadderResult} {r : Int} (h : slicesIndexFuncXX N s1 = some r) :
    ACalls Tryz.prog 221 [.d (.list 3 (List.map LadderResult.enc s1)), .d (.fn (.func 174) [] [.ref (.agg [.fn (.func 132) [] []])])] [] fun e os => e = .ret (.d (I r)) ∧ os = [] := by
  refine acalls_f (fresh := false) tt_ok dr_ok ⟨[], [], [], [], [1001], 0, []⟩ Tryz.func221 rfl Tryz.call221 rfl ?_
  unfold slicesIndexFuncXX at h
  (conv=>whnf);refine SeqG.mk Unit (fun y => []) (fun y => []) (fun y => slicesIndexFuncXX_k1 N = some r) ?_ ?_
  ·(conv=>whnf);refine LnA.mk _ (List.length_map _) ?_;(conv=>whnf);refine LoopG.mk (Nat × (Int × Int)) (fun y => [(0, .d (.list 3 (List.map LadderResult.enc s1))), (1, .d (.fn (.func 174) [] [.ref (.agg [.fn (.func 132) [] []])])), (7, .d (I y.2.1)), (8, .d (I y.2.2))]) (fun y => []) (fun y => loopN (fun rr x => slicesIndexFuncXX_b2 N s1 rr x.1 x.2) y.1 y.2 = some r) (fun y => y.1) (N, ((s1.length : Int), 0)) h (Sub.eq rfl ?_ ?_) ?_
   ·(repeat ((conv=>whnf);refine nr ?_));exact trivial
   ·exact trivial
   ·rintro ⟨n2, ⟨v17, v18⟩⟩ hl2;obtain ⟨n2, rfl, hl2⟩ := loopN_some hl2;replace hl2 : slicesIndexFuncXX_b2 N s1 (loopN (fun rr x => slicesIndexFuncXX_b2 N s1 rr x.1 x.2) n2) v17 v18 = some r := hl2;rw [slicesIndexFuncXX_b2] at hl2;(conv=>whnf);refine Br.mk (fun hc22 => ?_) (fun hc22 => ?_)
    ·replace hl2 := ite_t hc22 hl2;obtain ⟨x24, hx47, hl2⟩ := obind hl2;(conv=>whnf);refine Side.mk rfl ⟨_, idx_0 hx47, idx_map _ hx47, ?_⟩;obtain ⟨r24, hx48, hl2⟩ := obind hl2;(conv=>whnf);refine CallG.pure _ (ladderAll1C hN hx48) ?_;(conv=>whnf);refine Br.mk (fun hc24 => ?_) (fun hc24 => ?_)
     ·replace hl2 := ite_t hc24 hl2;(conv=>whnf);cases hl2;exact rfl
     ·replace hl2 := ite_f hc24 hl2;(conv=>whnf);refine ⟨(n2, (v17, w64 (v18 + 1))), hl2, Sub.eq rfl ?_ ?_, Nat.lt_succ_self _⟩
      ·(repeat ((conv=>whnf);refine nr ?_));exact trivial
      ·exact trivial
    ·replace hl2 := ite_f hc22 hl2;(conv=>whnf);refine ⟨(), hl2, Sub.eq rfl ?_ ?_⟩
     ·(repeat ((conv=>whnf);refine nr ?_));exact trivial
     ·exact trivial
  ·clear h;rintro _ h;unfold slicesIndexFuncXX_k1 at h;(conv=>whnf);cases h;exact rfl
theorem slicesContainsFuncXXC {N : Nat} (hN : N ≤ 1073741824) {s1 : List LadderResult} {r : Bool} (h : slicesContainsFuncXX N s1 = some r) :
    ACalls Tryz.prog 173 [.d (.list 3 (List.map LadderResult.enc s1)), .d (.fn (.func 174) [] [.ref (.agg [.fn (.func 132) [] []])])] [] fun e os => e = .ret (.d (.bool r)) ∧ os = [] := by
  refine acalls_f (fresh := false) tt_ok dr_ok ⟨[], [], [], [], [], 0, []⟩ Tryz.func173 rfl Tryz.call173 rfl ?_
  unfold slicesContainsFuncXX at h
  obtain ⟨r2, hx2, h⟩ := obind h;(conv=>whnf);refine CallG.pure _ (slicesIndexFuncXXC hN hx2) ?_;(conv=>whnf);cases h;exact rfl
theorem ladderAllC {N : Nat} (hN : N ≤ 1073741824) {l1 : List LadderResult} {r : Bool} (h : ladderAll N l1 = some r) :
    ACalls Tryz.prog 135 [.d (.list 3 (List.map LadderResult.enc l1)), .d (.fn (.func 132) [] [])] [] fun e os => e = .ret (.d (.bool r)) ∧ os = [] := by
  refine acalls_f (fresh := false) tt_ok dr_ok ⟨[3], [], [], [], [], 0, []⟩ Tryz.func135 rfl Tryz.call135 rfl ?_
  unfold ladderAll at h
  obtain ⟨r2, hx2, h⟩ := obind h;(conv=>whnf);refine CallG.pure _ (slicesContainsFuncXXC hN hx2) ?_;(conv=>whnf);cases h;exact rfl
theorem ladderWithinC {N : Nat} (hN : N ≤ 1073741824) {n1 : Int} {low1 : Int} {high1 : Int} {r : Bool} (h : ladderWithin N n1 low1 high1 = some r) :
    ACalls Tryz.prog 134 [.d (I n1), .d (I low1), .d (I high1)] [] fun e os => e = .ret (.d (.bool r)) ∧ os = [] := by
  refine acalls_f (fresh := false) tt_ok dr_ok ⟨[], [], [], [], [1], 0, []⟩ Tryz.func134 rfl Tryz.call134 rfl ?_
  unfold ladderWithin at h
  obtain ⟨v2, hx1, h⟩ := obind h;(conv=>whnf);refine SeqG.mk Unit (fun y => [(6, .d (.bool v2))]) (fun y => []) (fun _ => True) ?_ ?_
  ·(conv=>whnf);refine Br.mk (fun hc2 => ?_) (fun hc2 => ?_)
   ·replace hx1 := ite_t hc2 hx1;cases hx1;(conv=>whnf);refine ⟨(), trivial, Sub.eq rfl ?_ ?_⟩
    ·(repeat ((conv=>whnf);refine nr ?_));exact trivial
    ·exact trivial
   ·replace hx1 := ite_f hc2 hx1;cases hx1;(conv=>whnf);refine ⟨(), trivial, Sub.eq rfl ?_ ?_⟩
    ·(repeat ((conv=>whnf);refine nr ?_));exact trivial
    ·exact trivial
  ·rintro _ _;(conv=>whnf);cases h;exact rfl
theorem ladderCupCheckC {N : Nat} (hN : N ≤ 1073741824) {c1 : LadderCup} {r : Int} (h : ladderCupCheck N c1 = some r) :
    ACalls Tryz.prog 136 [.d (.agg [.int .u8 c1.fForm, I c1.fPlayers, I c1.fGames, .list 3 (List.map LadderResult.enc c1.fResults)])] [] fun e os => e = .ret (.d (I r)) ∧ os = [] := by
  refine acalls_f (fresh := false) tt_ok dr_ok ⟨[1], [], [], [], [1], 0, []⟩ Tryz.func136 rfl Tryz.call136 rfl ?_
  unfold ladderCupCheck at h
  obtain ⟨v4, hx8, h⟩ := obind h;(conv=>whnf);refine SeqG.mk Unit (fun y => [(23, .d (.bool v4))]) (fun y => []) (fun _ => True) ?_ ?_
  ·(conv=>whnf);refine Br.mk (fun hc11 => ?_) (fun hc11 => ?_)
   ·replace hx8 := ite_f hc11 hx8;obtain ⟨r7, hx9, hx8⟩ := obind hx8;(conv=>whnf);refine CallG.pure _ (ladderWithinC hN hx9) ?_;(conv=>whnf);refine Br.mk (fun hc12 => ?_) (fun hc12 => ?_)
    ·replace hx8 := ite_f hc12 hx8;obtain ⟨r8, hx10, hx8⟩ := obind hx8;(conv=>whnf);refine CallG.pure _ (ladderWithinC hN hx10) ?_;(conv=>whnf);refine Br.mk (fun hc13 => ?_) (fun hc13 => ?_)
     ·replace hx8 := ite_f hc13 hx8;(conv=>whnf);refine Need.mk (by decide) ?_;cases hx8;(conv=>whnf);refine ⟨(), trivial, Sub.eq rfl ?_ ?_⟩
      ·(repeat ((conv=>whnf);refine nr ?_));exact trivial
      ·exact trivial
     ·replace hx8 := ite_t hc13 hx8;cases hx8;(conv=>whnf);refine ⟨(), trivial, Sub.eq rfl ?_ ?_⟩
      ·(repeat ((conv=>whnf);refine nr ?_));exact trivial
      ·exact trivial
    ·replace hx8 := ite_t hc12 hx8;cases hx8;(conv=>whnf);refine ⟨(), trivial, Sub.eq rfl ?_ ?_⟩
     ·(repeat ((conv=>whnf);refine nr ?_));exact trivial
     ·exact trivial
   ·replace hx8 := ite_t hc11 hx8;cases hx8;(conv=>whnf);refine ⟨(), trivial, Sub.eq rfl ?_ ?_⟩
    ·(repeat ((conv=>whnf);refine nr ?_));exact trivial
    ·exact trivial
  ·rintro _ _;(conv=>whnf);refine Br.mk (fun hc14 => ?_) (fun hc14 => ?_)
   ·replace h := ite_t hc14 h;cases h
   ·replace h := ite_f hc14 h;(conv=>whnf);cases h;exact rfl
theorem ladderCupDraw2C {N : Nat} (hN : N ≤ 1073741824) {r1 : LadderResult} {a1 : LadderCup} {r : Bool} (h : ladderCupDraw2 N r1 a1 = some r) :
    ACalls Tryz.prog 133 [.d (.agg [I r1.fMatch, .list 1 (List.map I r1.fGames), .bool r1.fProtested]), .d (.ref (.agg [.int .u8 a1.fForm, I a1.fPlayers, I a1.fGames, .list 3 (List.map LadderResult.enc a1.fResults)]))] [] fun e os => e = .ret (.d (.bool r)) ∧ os = [] := by
  refine acalls_f (fresh := false) tt_ok dr_ok ⟨[2], [], [], [], [1], 0, []⟩ Tryz.func133 rfl Tryz.call133 rfl ?_
  unfold ladderCupDraw2 at h
  obtain ⟨v2, hx2, h⟩ := obind h;(conv=>whnf);refine SeqG.mk Unit (fun y => [(3, .d (.bool v2))]) (fun y => []) (fun _ => True) ?_ ?_
  ·obtain ⟨r3, hx3, hx2⟩ := obind hx2;(conv=>whnf);refine CallG.pure _ (ladderWithinC hN hx3) ?_;(conv=>whnf);refine Br.mk (fun hc2 => ?_) (fun hc2 => ?_)
   ·replace hx2 := ite_t hc2 hx2;(conv=>whnf);refine LnA.mk _ (List.length_map _) ?_;cases hx2;(conv=>whnf);refine ⟨(), trivial, Sub.eq rfl ?_ ?_⟩
    ·(repeat ((conv=>whnf);refine nr ?_));exact trivial
    ·exact trivial
   ·replace hx2 := ite_f hc2 hx2;cases hx2;(conv=>whnf);refine ⟨(), trivial, Sub.eq rfl ?_ ?_⟩
    ·(repeat ((conv=>whnf);refine nr ?_));exact trivial
    ·exact trivial
  ·rintro _ _;(conv=>whnf);cases h;exact rfl
theorem ladderAll1XC {N : Nat} (hN : N ≤ 1073741824) {x1 : LadderResult} {a1 : LadderCup} {r : Bool} (h : ladderAll1X N x1 a1 = some r) :
    ACalls Tryz.prog 174 [.d (.agg [I x1.fMatch, .list 1 (List.map I x1.fGames), .bool x1.fProtested]), .d (.ref (.agg [.fn (.func 133) [] [.ref (.agg [.int .u8 a1.fForm, I a1.fPlayers, I a1.fGames, .list 3 (List.map LadderResult.enc a1.fResults)])]]))] [] fun e os => e = .ret (.d (.bool r)) ∧ os = [] := by
  refine acalls_f (fresh := false) tt_ok dr_ok ⟨[2], [], [], [], [], 0, []⟩ Tryz.func174 rfl Tryz.call174 rfl ?_
  unfold ladderAll1X at h
  obtain ⟨r2, hx2, h⟩ := obind h;(conv=>whnf);refine CallG.pure _ (ladderCupDraw2C hN hx2) ?_;(conv=>whnf);cases h;exact rfl
theorem slicesIndexFuncXXXC {N : Nat} (hN : N ≤ 1073741824) {s1 : List LadderResult} {f1 : LadderCup} {r : Int} (h : slicesIndexFuncXXX N s1 f1 = some r) :
    ACalls Tryz.prog 221 [.d (.list 3 (List.map LadderResult.enc s1)), .d (.fn (.func 174) [] [.ref (.agg [.fn (.func 133) [] [.ref (.agg [.int .u8 f1.fForm, I f1.fPlayers, I f1.fGames, .list 3 (List.map LadderResult.enc f1.fResults)])]])])] [] fun e os => e = .ret (.d (I r)) ∧ os = [] := by
  refine acalls_f (fresh := false) tt_ok dr_ok ⟨[], [], [], [], [1001], 0, []⟩ Tryz.func221 rfl Tryz.call221 rfl ?_
  unfold slicesIndexFuncXXX at h
  (conv=>whnf);refine SeqG.mk Unit (fun y => []) (fun y => []) (fun y => slicesIndexFuncXXX_k1 N = some r) ?_ ?_
  ·(conv=>whnf);refine LnA.mk _ (List.length_map _) ?_;(conv=>whnf);refine LoopG.mk (Nat × (Int × Int)) (fun y => [(0, .d (.list 3 (List.map LadderResult.enc s1))), (1, .d (.fn (.func 174) [] [.ref (.agg [.fn (.func 133) [] [.ref (.agg [.int .u8 f1.fForm, I f1.fPlayers, I f1.fGames, .list 3 (List.map LadderResult.enc f1.fResults)])]])])), (7, .d (I y.2.1)), (8, .d (I y.2.2))]) (fun y => []) (fun y => loopN (fun rr x => slicesIndexFuncXXX_b2 N s1 f1 rr x.1 x.2) y.1 y.2 = some r) (fun y => y.1) (N, ((s1.length : Int), 0)) h (Sub.eq rfl ?_ ?_) ?_
   ·(repeat ((conv=>whnf);refine nr ?_));exact trivial
   ·exact trivial
   ·rintro ⟨n2, ⟨v17, v18⟩⟩ hl2;obtain ⟨n2, rfl, hl2⟩ := loopN_some hl2;replace hl2 : slicesIndexFuncXXX_b2 N s1 f1 (loopN (fun rr x => slicesIndexFuncXXX_b2 N s1 f1 rr x.1 x.2) n2) v17 v18 = some r := hl2;rw [slicesIndexFuncXXX_b2] at hl2;(conv=>whnf);refine Br.mk (fun hc22 => ?_) (fun hc22 => ?_)
    ·replace hl2 := ite_t hc22 hl2;obtain ⟨x24, hx47, hl2⟩ := obind hl2;(conv=>whnf);refine Side.mk rfl ⟨_, idx_0 hx47, idx_map _ hx47, ?_⟩;obtain ⟨r24, hx48, hl2⟩ := obind hl2;(conv=>whnf);refine CallG.pure _ (ladderAll1XC hN hx48) ?_;(conv=>whnf);refine Br.mk (fun hc24 => ?_) (fun hc24 => ?_)
     ·replace hl2 := ite_t hc24 hl2;(conv=>whnf);cases hl2;exact rfl
     ·replace hl2 := ite_f hc24 hl2;(conv=>whnf);refine ⟨(n2, (v17, w64 (v18 + 1))), hl2, Sub.eq rfl ?_ ?_, Nat.lt_succ_self _⟩
      ·(repeat ((conv=>whnf);refine nr ?_));exact trivial
      ·exact trivial
    ·replace hl2 := ite_f hc22 hl2;(conv=>whnf);refine ⟨(), hl2, Sub.eq rfl ?_ ?_⟩
     ·(repeat ((conv=>whnf);refine nr ?_));exact trivial
     ·exact trivial
  ·clear h;rintro _ h;unfold slicesIndexFuncXXX_k1 at h;(conv=>whnf);cases h;exact rfl
theorem slicesContainsFuncXXXC {N : Nat} (hN : N ≤ 1073741824) {s1 : List LadderResult} {f1 : LadderCup} {r : Bool} (h : slicesContainsFuncXXX N s1 f1 = some r) :
    ACalls Tryz.prog 173 [.d (.list 3 (List.map LadderResult.enc s1)), .d (.fn (.func 174) [] [.ref (.agg [.fn (.func 133) [] [.ref (.agg [.int .u8 f1.fForm, I f1.fPlayers, I f1.fGames, .list 3 (List.map LadderResult.enc f1.fResults)])]])])] [] fun e os => e = .ret (.d (.bool r)) ∧ os = [] := by
  refine acalls_f (fresh := false) tt_ok dr_ok ⟨[], [], [], [], [], 0, []⟩ Tryz.func173 rfl Tryz.call173 rfl ?_
  unfold slicesContainsFuncXXX at h
  obtain ⟨r2, hx2, h⟩ := obind h;(conv=>whnf);refine CallG.pure _ (slicesIndexFuncXXXC hN hx2) ?_;(conv=>whnf);cases h;exact rfl
theorem ladderAllXC {N : Nat} (hN : N ≤ 1073741824) {l1 : List LadderResult} {right1 : LadderCup} {r : Bool} (h : ladderAllX N l1 right1 = some r) :
    ACalls Tryz.prog 135 [.d (.list 3 (List.map LadderResult.enc l1)), .d (.fn (.func 133) [] [.ref (.agg [.int .u8 right1.fForm, I right1.fPlayers, I right1.fGames, .list 3 (List.map LadderResult.enc right1.fResults)])])] [] fun e os => e = .ret (.d (.bool r)) ∧ os = [] := by
  refine acalls_f (fresh := false) tt_ok dr_ok ⟨[3], [], [], [], [], 0, []⟩ Tryz.func135 rfl Tryz.call135 rfl ?_
  unfold ladderAllX at h
  obtain ⟨r2, hx2, h⟩ := obind h;(conv=>whnf);refine CallG.pure _ (slicesContainsFuncXXXC hN hx2) ?_;(conv=>whnf);cases h;exact rfl
theorem ladderPlayerC {N : Nat} (hN : N ≤ 1073741824) {n1 : Int} {r : LadderSide} (h : ladderPlayer N n1 = some r) :
    ACalls Tryz.prog 222 [.d (I n1)] [] fun e os => e = .ret (.d (.agg [I r.fPlayer, I r.fMatch])) ∧ os = [] := by
  refine acalls_f (fresh := false) tt_ok dr_ok ⟨[], [], [], [], [], 0, []⟩ Tryz.func222 rfl Tryz.call222 rfl ?_
  unfold ladderPlayer at h
  (conv=>whnf);intro b2;(iterate 2 ((conv=>whnf);refine sr ?_));(conv=>whnf);cases h;exact rfl
theorem ladderCupLadderC {N : Nat} (hN : N ≤ 1073741824) {c1 : LadderCup} {r : (List LadderPair)} (h : ladderCupLadder N c1 = some r) :
    ACalls Tryz.prog 175 [.d (.agg [.int .u8 c1.fForm, I c1.fPlayers, I c1.fGames, .list 3 (List.map LadderResult.enc c1.fResults)])] [] fun e os => e = .ret (.d (.list 4 (List.map LadderPair.enc r))) ∧ os = [] := by
  refine acalls_f (fresh := false) tt_ok dr_ok ⟨[1], [], [], [], [1003], 0, []⟩ Tryz.func175 rfl Tryz.call175 rfl ?_
  unfold ladderCupLadder at h
  obtain ⟨r3, hx3, h⟩ := obind h;(conv=>whnf);refine CallG.pure _ (ladderPlayerC hN hx3) ?_;obtain ⟨r4, hx4, h⟩ := obind h;(conv=>whnf);refine CallG.pure _ (ladderPlayerC hN hx4) ?_;(conv=>whnf);intro hd2;obtain ⟨l6, hx5, h⟩ := obind h;(conv=>whnf);refine SeqG.mk Unit (fun y => [(4, .sl 15 hd2)]) (fun y => [(15, .arr hd2 288 4 false (List.map LadderPair.enc l6))]) (fun _ => True) ?_ ?_
  ·(conv=>whnf);refine LoopG.mk (Nat × (Int × (List LadderPair))) (fun y => [(3, .d (I y.2.1)), (4, .sl 15 hd2), (5, .i .i64 1)]) (fun y => [(15, .arr hd2 288 4 false (List.map LadderPair.enc y.2.2))]) (fun y => loopN (fun rr x => ladderCupLadder_b1 N rr x.1 x.2) y.1 y.2 = some l6) (fun y => y.1) (N, (w64 (c1.fPlayers - 1), [(LadderPair.mk r3 r4)])) hx5 (Sub.eq rfl ?_ ?_) ?_
   ·(repeat ((conv=>whnf);refine nr ?_));exact trivial
   ·(conv=>whnf);refine no ?_;exact trivial
   ·rintro ⟨n2, ⟨last10, l11⟩⟩ hl2;obtain ⟨n2, rfl, hl2⟩ := loopN_some hl2;replace hl2 : ladderCupLadder_b1 N (loopN (fun rr x => ladderCupLadder_b1 N rr x.1 x.2) n2) last10 l11 = some l6 := hl2;rw [ladderCupLadder_b1] at hl2;(conv=>whnf);refine Br.mk (fun hc12 => ?_) (fun hc12 => ?_)
    ·replace hl2 := ite_t hc12 hl2;cases hl2
    ·replace hl2 := ite_f hc12 hl2;cases hl2;(conv=>whnf);refine ⟨(), trivial, Sub.eq rfl ?_ ?_⟩
     ·(repeat ((conv=>whnf);refine nr ?_));exact trivial
     ·(conv=>whnf);refine no ?_;exact trivial
  ·rintro _ _;(conv=>whnf);refine sr ?_;(conv=>whnf);cases h;exact rfl
theorem ladderCupTreeC {N : Nat} (hN : N ≤ 1073741824) {c1 : LadderCup} {r : (List LadderPair)} (h : ladderCupTree N c1 = some r) :
    ACalls Tryz.prog 137 [.d (.agg [.int .u8 c1.fForm, I c1.fPlayers, I c1.fGames, .list 3 (List.map LadderResult.enc c1.fResults)])] [] fun e os => e = .ret (.d (.list 4 (List.map LadderPair.enc r))) ∧ os = [] := by
  refine acalls_f (fresh := false) tt_ok dr_ok ⟨[1], [], [], [], [], 0, []⟩ Tryz.func137 rfl Tryz.call137 rfl ?_
  unfold ladderCupTree at h
  (conv=>whnf);refine Br.mk (fun hc2 => ?_) (fun hc2 => ?_)
  ·replace h := ite_t hc2 h;obtain ⟨r4, hx4, h⟩ := obind h;(conv=>whnf);refine CallG.pure _ (ladderCupLadderC hN hx4) ?_;(conv=>whnf);cases h;exact rfl
  ·replace h := ite_f hc2 h;cases h
theorem ladderSidesC {N : Nat} (hN : N ≤ 1073741824)  {r : Unit} (h : ladderSides N = some r) :
    ACalls Tryz.prog 178 [] [] fun e os => e = .ret (.d (.agg [.fn (.func 227) [] [], .fn (.func 228) [] []])) ∧ os = [] := by
  refine acalls_f (fresh := false) tt_ok dr_ok ⟨[], [], [], [], [], 0, []⟩ Tryz.func178 rfl Tryz.call178 rfl ?_
  unfold ladderSides at h
  (conv=>whnf);intro b2;(iterate 2 ((conv=>whnf);refine sr ?_));(conv=>whnf)
  all_goals cases h
  all_goals exact rfl
theorem ladderPairFirstC {N : Nat} (hN : N ≤ 1073741824) {p1 : LadderPair} {r : LadderSide} (h : ladderPairFirst N p1 = some r) :
    ACalls Tryz.prog 227 [.d (.agg [I p1.fFirst.fPlayer, I p1.fFirst.fMatch, I p1.fSecond.fPlayer, I p1.fSecond.fMatch])] [] fun e os => e = .ret (.d (.agg [I r.fPlayer, I r.fMatch])) ∧ os = [] := by
  refine acalls_f (fresh := false) tt_ok dr_ok ⟨[1], [], [], [], [], 0, []⟩ Tryz.func227 rfl Tryz.call227 rfl ?_
  unfold ladderPairFirst at h
  (conv=>whnf);intro b2;(iterate 2 ((conv=>whnf);refine sr ?_));(conv=>whnf);cases h;exact rfl
theorem ladderPairSecondC {N : Nat} (hN : N ≤ 1073741824) {p1 : LadderPair} {r : LadderSide} (h : ladderPairSecond N p1 = some r) :
    ACalls Tryz.prog 228 [.d (.agg [I p1.fFirst.fPlayer, I p1.fFirst.fMatch, I p1.fSecond.fPlayer, I p1.fSecond.fMatch])] [] fun e os => e = .ret (.d (.agg [I r.fPlayer, I r.fMatch])) ∧ os = [] := by
  refine acalls_f (fresh := false) tt_ok dr_ok ⟨[1], [], [], [], [], 0, []⟩ Tryz.func228 rfl Tryz.call228 rfl ?_
  unfold ladderPairSecond at h
  (conv=>whnf);intro b2;(iterate 2 ((conv=>whnf);refine sr ?_));(conv=>whnf);cases h;exact rfl
theorem ladderDrawFillXC {N : Nat} (hN : N ≤ 1073741824) {c1 : Int} {c2 : Int} {c3 : Int} {c4 : List LadderResult} {c5 : List LadderPair} {m1 : List (Int × LadderResult)} {bo1 : Nat} {bo2 : Nat} {r : Bool × Int × Int × Int × (List LadderResult) × (List LadderPair) × (List (Ar2 Int))} (h : ladderDrawFillX N c1 c2 c3 c4 c5 m1 = some r) :
    ACalls Tryz.prog 138 [.ptr 440040 bo1 0] [(440040, .cells bo1 [.d (.int .u8 c1), .d (I c2), .d (I c3), .d (.list 3 (List.map LadderResult.enc c4)), .d (.list 4 (List.map LadderPair.enc c5)), .mp 440038 bo2, .nils 2]), (440038, .map bo2 (List.map eMR m1))] fun ae os => ∃ y : Value, True ∧ ae = .ret (.d (.bool r.1)) ∧ os = [(440040, .cells bo1 (cD r.2.1 r.2.2.1 r.2.2.2.1 r.2.2.2.2.1 r.2.2.2.2.2.1 440038 bo2 1695055 y)), (440038, .map bo2 (List.map eMR m1)), (1695055, .arr y 96 2 false (List.map eA2 r.2.2.2.2.2.2))] := by
  refine acalls_own (fresh := false) tt_ok dr_ok ⟨[], [], [], [], [1002], 1695000, []⟩ Tryz.func138 rfl Tryz.call138 rfl ?_
  unfold ladderDrawFillX at h
  obtain ⟨l17, hx157, h⟩ := obind h;(conv=>whnf);refine SeqG.mk Value (fun y => []) (fun y => [(440040, .cells bo1 (cD c1 c2 c3 c4 c5 440038 bo2 1695055 y)), (440038, .map bo2 (List.map eMR m1)), (1695055, .arr y 96 2 false (List.map eA2 l17))]) (fun _ => True) ?_ ?_
  ·(conv=>whnf);refine sr ?_;(conv=>whnf);refine LnA.mk _ (List.length_map _) ?_;(conv=>whnf)
   refine LoopG.mk (Nat × (Int × Int × (List (Ar2 Int))) × Value) (fun y => [(0, .ptr 440040 bo1 0), (3, .fn (.func 177) [.ptr 440040 bo1 0] []), (17, .d (.list 4 (List.map LadderPair.enc c5))), (18, .d (I y.2.1.1)), (19, .d (I y.2.1.2.1))]) (fun y => [(440040, .cells bo1 (cD c1 c2 c3 c4 c5 440038 bo2 1695055 y.2.2)), (440038, .map bo2 (List.map eMR m1)), (1695055, .arr y.2.2 96 2 false (List.map eA2 y.2.1.2.2))]) (fun y => loopN (fun rr x => ladderDrawFillX_b1 N c5 m1 rr x.1 x.2.1 x.2.2) y.1 y.2.1 = some l17) (fun y => y.1) (N, ((c5.length : Int), 0, []), (.slice none 0 0)) hx157 (Sub.eq rfl ?_ ?_) ?_
   ·(repeat ((conv=>whnf);refine nr ?_));exact trivial
   ·(conv=>whnf);refine Need.mk (OLe.cells _ _ _ (by repeat (first | exact trivial | ((conv => whnf); refine Need.mk rfl ?_)))) ?_;(conv=>whnf);refine no ?_;(conv=>whnf);refine Need.mk (OLe.nil _ _ _ _) ?_;exact trivial
   ·rintro ⟨n2, ⟨v37, v38, l29⟩, hd89⟩ hl2;obtain ⟨n2, rfl, hl2⟩ := loopN_some hl2;replace hl2 : ladderDrawFillX_b1 N c5 m1 (loopN (fun rr x => ladderDrawFillX_b1 N c5 m1 rr x.1 x.2.1 x.2.2) n2) v37 v38 l29 = some l17 := hl2;rw [ladderDrawFillX_b1] at hl2;(conv=>whnf);refine Br.mk (fun hc112 => ?_) (fun hc112 => ?_)
    ·replace hl2 := ite_t hc112 hl2;obtain ⟨x24, hx289, hl2⟩ := obind hl2;(conv=>whnf);refine Side.mk rfl ⟨_, idx_0 hx289, idx_map _ hx289, ?_⟩;(conv=>whnf);intro b420;(conv=>whnf);refine sr ?_;(conv=>whnf);intro b422;(conv=>whnf);refine sr ?_;obtain ⟨_, hx301, hl2⟩ := obind hl2;(conv=>whnf);refine CallG.pure _ (ladderSidesC hN hx301) ?_;(conv=>whnf);refine LoopG.unr 3 ?_;(conv=>whnf);refine IxG.mk 0 rfl (by decide) ?_;(conv=>whnf);intro b444;(iterate 3 ((conv=>whnf);refine sr ?_));obtain ⟨r188, hx305, hl2⟩ := obind hl2;(conv=>whnf);refine CallG.pure _ (ladderPairFirstC hN hx305) ?_;(conv=>whnf);intro b446;(iterate 2 ((conv=>whnf);refine sr ?_));(conv=>whnf);refine Br.mk (fun hc128 => ?_) (fun hc128 => ?_)
     ·replace hl2 := ite_t hc128 hl2;(conv=>whnf);refine sr ?_;(conv=>whnf);refine IxG.mk 0 rfl (by decide) ?_;(conv=>whnf);refine sr ?_;(conv=>whnf);refine IxG.mk 1 rfl (by decide) ?_;(conv=>whnf);intro b452;(iterate 3 ((conv=>whnf);refine sr ?_));obtain ⟨r192, hx309, hl2⟩ := obind hl2;(conv=>whnf);refine CallG.pure _ (ladderPairSecondC hN hx309) ?_;(conv=>whnf);intro b454;(iterate 2 ((conv=>whnf);refine sr ?_));(conv=>whnf);refine Br.mk (fun hc130 => ?_) (fun hc130 => ?_)
      ·replace hl2 := ite_t hc130 hl2;(conv=>whnf);refine sr ?_;(conv=>whnf);refine IxG.mk 1 rfl (by decide) ?_;(conv=>whnf);refine sr ?_;obtain ⟨l33, hx311, hl2⟩ := obind hl2;(conv=>whnf);refine DrawG.mk (.take 0 (.take 1 (.take 2 (.take 3 (.take 4 (.take 5 (.alt 6 [4, 3, 2, 1, 0] (.alt 7 [3, 2, 1, 0] (.take 8 (.take 9 (.alt 10 [8] .done .nil))) .nil) .nil))))))) (by kernel_rfl) ?_;(iterate 2 ((conv=>whnf);refine sr ?_));(conv=>whnf);refine Both.mk ?_ trivial;(conv=>whnf);intro hd104;(conv=>whnf);refine sr ?_;(iterate 5 ((conv=>whnf);refine nl ?_));(conv=>whnf);refine Both.mk ?_ trivial;(conv=>whnf);refine Side.mk ⟨rfl, rfl⟩ ?_;(conv=>whnf)
       refine Side.mk ⟨rfl, rfl, rfl⟩ (Need.mk (app_need hN hx311 (by decide)) (Eqv.mk (List.map eA2 l33) (app_map _ hx311) ?_));(conv=>whnf);intro hd105;(iterate 4 ((conv=>whnf);refine nl ?_));(conv=>whnf);refine Both.mk ?_ trivial;(conv=>whnf);refine sr ?_;(conv=>whnf);refine nl ?_;(conv=>whnf);refine sr ?_;obtain ⟨⟨v42, is24⟩, hx313, hl2⟩ := obind hl2;(conv=>whnf)
       refine Side.mk rfl (Need.mk rfl (Need.mk (fit_all (m := m1) (fun x : Int => I x) (fun x : LadderResult => .agg [I x.fMatch, .list 1 (List.map I x.fGames), .bool x.fProtested]) fun _ => rfl) (LkG.mk (.agg [I v42.fMatch, .list 1 (List.map I v42.fGames), .bool v42.fProtested]) is24 (mgt_v (eK := (fun x : Int => I x)) (eV := (fun x : LadderResult => .agg [I x.fMatch, .list 1 (List.map I x.fGames), .bool x.fProtested])) eqc_int hx313) (mgt_b (eK := (fun x : Int => I x)) (eV := (fun x : LadderResult => .agg [I x.fMatch, .list 1 (List.map I x.fGames), .bool x.fProtested])) eqc_int hx313) ?_)));(conv=>whnf);intro b456;(conv=>whnf);refine sr ?_;(conv=>whnf);refine Br.mk (fun hc132 => ?_) (fun hc132 => ?_)
       ·replace hl2 := ite_t hc132 hl2;(conv=>whnf);refine sr ?_;cases hl2
       ·replace hl2 := ite_f hc132 hl2;(conv=>whnf);refine ⟨(n2, (v37, w64 (v38 + 1), l33), hd105), hl2, Sub.eq rfl ?_ ?_, Nat.lt_succ_self _⟩
        ·(repeat ((conv=>whnf);refine nr ?_));exact trivial
        ·(iterate 3 ((conv=>whnf);refine no ?_));exact trivial
      ·replace hl2 := ite_f hc130 hl2;cases hl2
     ·replace hl2 := ite_f hc128 hl2;cases hl2
    ·replace hl2 := ite_f hc112 hl2;cases hl2;(conv=>whnf);refine ⟨hd89, trivial, Sub.eq rfl ?_ ?_⟩
     ·(repeat ((conv=>whnf);refine nr ?_));exact trivial
     ·(iterate 3 ((conv=>whnf);refine no ?_));exact trivial
  ·rintro hd53 _;(conv=>whnf);cases h;exact ⟨hd53, trivial, rfl, inO_at (ren := id) (ai (ai (ai trivial)))⟩
theorem ladderCupDrawC {N : Nat} (hN : N ≤ 1073741824) {c1 : LadderCup} {r : Int × Int × Int × Int × (List LadderResult) × (List LadderPair) × (List (Int × LadderResult)) × (List (Ar2 Int))} (h : ladderCupDraw N c1 = some r) :
    ACalls Tryz.prog 87 [.d (.agg [.int .u8 c1.fForm, I c1.fPlayers, I c1.fGames, .list 3 (List.map LadderResult.enc c1.fResults)])] [] fun ae os => ∃ y : Nat × Nat × Value, True ∧ ae = .ret (.tup [.ptr 440040 y.1 0, .d (I r.1)]) ∧ os = [(440040, .cells y.1 (cD r.2.1 r.2.2.1 r.2.2.2.1 r.2.2.2.2.1 r.2.2.2.2.2.1 440038 y.2.1 1695055 y.2.2)), (440038, .map y.2.1 (List.map eMR r.2.2.2.2.2.2.1)), (1695055, .arr y.2.2 96 2 false (List.map eA2 r.2.2.2.2.2.2.2))] := by
  refine acalls_own (fresh := false) tt_ok dr_ok ⟨[1], [], [], [], [3, 5, 1008], 440000, []⟩ Tryz.func87 rfl Tryz.call87 rfl ?_
  unfold ladderCupDraw at h
  obtain ⟨v6, hx10, h⟩ := obind h;(conv=>whnf);refine SeqG.mk Unit (fun y => [(1, .d (.ref (.agg [.int .u8 c1.fForm, I c1.fPlayers, I c1.fGames, .list 3 (List.map LadderResult.enc c1.fResults)]))), (5, .d (.fn (.func 133) [] [.ref (.agg [.int .u8 c1.fForm, I c1.fPlayers, I c1.fGames, .list 3 (List.map LadderResult.enc c1.fResults)])])), (12, .d (.bool v6))]) (fun y => []) (fun _ => True) ?_ ?_
  ·(conv=>whnf);refine LnA.mk _ (List.length_map _) ?_;(conv=>whnf);refine Br.mk (fun hc8 => ?_) (fun hc8 => ?_)
   ·replace hx10 := ite_f hc8 hx10;obtain ⟨r8, hx11, hx10⟩ := obind hx10;(conv=>whnf);refine CallG.pure _ (ladderAllC hN hx11) ?_;cases hx10;(conv=>whnf);refine ⟨(), trivial, Sub.eq rfl ?_ ?_⟩
    ·(repeat ((conv=>whnf);refine nr ?_));exact trivial
    ·exact trivial
   ·replace hx10 := ite_t hc8 hx10;cases hx10;(conv=>whnf);refine ⟨(), trivial, Sub.eq rfl ?_ ?_⟩
    ·(repeat ((conv=>whnf);refine nr ?_));exact trivial
    ·exact trivial
  ·rintro _ _;(conv=>whnf);refine Br.mk (fun hc9 => ?_) (fun hc9 => ?_)
   ·replace h := ite_t hc9 h;cases h
   ·replace h := ite_f hc9 h;obtain ⟨v8, hx14, h⟩ := obind h;(conv=>whnf);refine SeqG.mk Unit (fun y => [(1, .d (.ref (.agg [.int .u8 c1.fForm, I c1.fPlayers, I c1.fGames, .list 3 (List.map LadderResult.enc c1.fResults)]))), (24, .d (.bool v8))]) (fun y => []) (fun _ => True) ?_ ?_
    ·obtain ⟨r11, hx15, hx14⟩ := obind hx14;(conv=>whnf);refine CallG.pure _ (ladderCupCheckC hN hx15) ?_;(conv=>whnf);refine Br.mk (fun hc11 => ?_) (fun hc11 => ?_)
     ·replace hx14 := ite_f hc11 hx14;obtain ⟨r12, hx16, hx14⟩ := obind hx14;(conv=>whnf);refine CallG.pure _ (ladderAllXC hN hx16) ?_;cases hx14;(conv=>whnf);refine ⟨(), trivial, Sub.eq rfl ?_ ?_⟩
      ·(repeat ((conv=>whnf);refine nr ?_));exact trivial
      ·exact trivial
     ·replace hx14 := ite_t hc11 hx14;cases hx14;(conv=>whnf);refine ⟨(), trivial, Sub.eq rfl ?_ ?_⟩
      ·(repeat ((conv=>whnf);refine nr ?_));exact trivial
      ·exact trivial
    ·rintro _ _;(conv=>whnf);refine Br.mk (fun hc12 => ?_) (fun hc12 => ?_)
     ·replace h := ite_t hc12 h;cases h
     ·replace h := ite_f hc12 h;obtain ⟨r14, hx18, h⟩ := obind h;(conv=>whnf);refine DrawG.mk (.take 0 (.take 1 (.alt 2 [0] (.alt 3 [0] (.alt 4 [] (.alt 5 [] (.take 6 .done) .nil) .nil) .nil) (.alt 3 [1, 0] (.alt 2 [0] (.alt 4 [] (.alt 5 [] (.take 6 .done) .nil) .nil) .nil) .nil)))) (by kernel_rfl) ?_;(conv=>whnf);refine Both.mk ?_ ?_
      ·(conv=>whnf);refine CallG.pure _ (ladderCupTreeC hN hx18) ?_;(conv=>whnf);refine nl ?_;(conv=>whnf);refine Both.mk ?_ trivial;(conv=>whnf);intro b9;(conv=>whnf);refine nl ?_;(conv=>whnf);refine Both.mk ?_ trivial;(conv=>whnf);refine Both.mk ?_ trivial;(conv=>whnf);intro b10;obtain ⟨_, hx31, h⟩ := obind h;(conv=>whnf);refine SeqG.mk Unit (fun y => [(6, .ptr 440040 b10 0)]) (fun y => [(440040, .cells b10 [.d (.int .u8 c1.fForm), .d (I c1.fPlayers), .d (I c1.fGames), .d (.list 3 (List.map LadderResult.enc c1.fResults)), .d (.list 4 (List.map LadderPair.enc r14)), .mp 440038 b9, .nils 2]), (440038, .map b9 (List.map eMR (([] : List (Int × LadderResult)))))]) (fun _ => True) ?_ ?_
       ·(conv=>whnf);refine LnA.mk _ (List.length_map _) ?_;(conv=>whnf);refine LoopG.mk (Nat × Int) (fun y => [(6, .ptr 440040 b10 0), (42, .d (.list 3 (List.map LadderResult.enc c1.fResults))), (43, .d (I y.2)), (44, .i .i64 0)]) (fun y => [(440040, .cells b10 [.d (.int .u8 c1.fForm), .d (I c1.fPlayers), .d (I c1.fGames), .d (.list 3 (List.map LadderResult.enc c1.fResults)), .d (.list 4 (List.map LadderPair.enc r14)), .mp 440038 b9, .nils 2]), (440038, .map b9 (List.map eMR (([] : List (Int × LadderResult)))))]) (fun y => loopN (fun rr x => ladderCupDraw_b1 N c1 rr x) y.1 y.2 = some ()) (fun y => y.1) (N, (c1.fResults.length : Int)) hx31 (Sub.eq rfl ?_ ?_) ?_
        ·(repeat ((conv=>whnf);refine nr ?_));exact trivial
        ·(iterate 2 ((conv=>whnf);refine no ?_));exact trivial
        ·rintro ⟨n2, v18⟩ hl2;obtain ⟨n2, rfl, hl2⟩ := loopN_some hl2;replace hl2 : ladderCupDraw_b1 N c1 (loopN (fun rr x => ladderCupDraw_b1 N c1 rr x) n2) v18 = some () := hl2;rw [ladderCupDraw_b1] at hl2;(conv=>whnf);refine Br.mk (fun hc24 => ?_) (fun hc24 => ?_)
         ·replace hl2 := ite_t hc24 hl2;obtain ⟨x24, hx43, hl2⟩ := obind hl2;(conv=>whnf);refine Side.mk rfl ⟨_, idx_0 hx43, idx_map _ hx43, ?_⟩;(conv=>whnf);intro b34;(conv=>whnf);refine sr ?_;cases hl2
         ·replace hl2 := ite_f hc24 hl2;(conv=>whnf);refine ⟨(), trivial, Sub.eq rfl ?_ ?_⟩
          ·(repeat ((conv=>whnf);refine nr ?_));exact trivial
          ·(iterate 2 ((conv=>whnf);refine no ?_));exact trivial
       ·rintro _ _;obtain ⟨⟨ra4, rb4, rc4, rd4, re4, rf4, rg4⟩, hx47, h⟩ := obind h;(conv=>whnf);refine CallG.own (ladderDrawFillXC (bo1 := b10) (bo2 := b9) hN hx47) id [] _ (fun y => [(440040, .cells b10 (cD rb4 rc4 rd4 re4 rf4 440038 b9 1695055 y)), (440038, .map b9 (List.map eMR (([] : List (Int × LadderResult))))), (1695055, .arr y 96 2 false (List.map eA2 rg4))]) (all2_le_refl _) (ai (ai trivial)) rfl (ai (ai trivial)) trivial (fun _ => AV.le_refl _) (fun _ => rfl) ?_;rintro hd4 _;(conv=>whnf);refine Br.mk (fun hc26 => ?_) (fun hc26 => ?_)
        ·replace h := ite_t hc26 h;cases h
        ·replace h := ite_f hc26 h;(conv=>whnf);cases h;exact ⟨(b10, b9, hd4), trivial, rfl, inO_at (ren := id) (ai (ai (ai trivial)))⟩
      ·(conv=>whnf);refine Both.mk ?_ trivial;(conv=>whnf);intro b35;(iterate 2 ((conv=>whnf);refine nl ?_));(conv=>whnf);refine Both.mk ?_ trivial;(conv=>whnf);refine CallG.pure _ (ladderCupTreeC hN hx18) ?_;(conv=>whnf);refine nl ?_;(conv=>whnf);refine Both.mk ?_ trivial;(conv=>whnf);refine Both.mk ?_ trivial;(conv=>whnf);intro b36;obtain ⟨_, hx60, h⟩ := obind h;(conv=>whnf);refine SeqG.mk Unit (fun y => [(6, .ptr 440040 b36 0)]) (fun y => [(440040, .cells b36 [.d (.int .u8 c1.fForm), .d (I c1.fPlayers), .d (I c1.fGames), .d (.list 3 (List.map LadderResult.enc c1.fResults)), .d (.list 4 (List.map LadderPair.enc r14)), .mp 440038 b35, .nils 2]), (440038, .map b35 (List.map eMR (([] : List (Int × LadderResult)))))]) (fun _ => True) ?_ ?_
       ·(conv=>whnf);refine LnA.mk _ (List.length_map _) ?_;(conv=>whnf);refine LoopG.mk (Nat × Int) (fun y => [(6, .ptr 440040 b36 0), (42, .d (.list 3 (List.map LadderResult.enc c1.fResults))), (43, .d (I y.2)), (44, .i .i64 0)]) (fun y => [(440040, .cells b36 [.d (.int .u8 c1.fForm), .d (I c1.fPlayers), .d (I c1.fGames), .d (.list 3 (List.map LadderResult.enc c1.fResults)), .d (.list 4 (List.map LadderPair.enc r14)), .mp 440038 b35, .nils 2]), (440038, .map b35 (List.map eMR (([] : List (Int × LadderResult)))))]) (fun y => loopN (fun rr x => ladderCupDraw_b2 N c1 rr x) y.1 y.2 = some ()) (fun y => y.1) (N, (c1.fResults.length : Int)) hx60 (Sub.eq rfl ?_ ?_) ?_
        ·(repeat ((conv=>whnf);refine nr ?_));exact trivial
        ·(iterate 2 ((conv=>whnf);refine no ?_));exact trivial
        ·rintro ⟨n4, v28⟩ hl4;obtain ⟨n4, rfl, hl4⟩ := loopN_some hl4;replace hl4 : ladderCupDraw_b2 N c1 (loopN (fun rr x => ladderCupDraw_b2 N c1 rr x) n4) v28 = some () := hl4;rw [ladderCupDraw_b2] at hl4;(conv=>whnf);refine Br.mk (fun hc38 => ?_) (fun hc38 => ?_)
         ·replace hl4 := ite_t hc38 hl4;obtain ⟨x48, hx72, hl4⟩ := obind hl4;(conv=>whnf);refine Side.mk rfl ⟨_, idx_0 hx72, idx_map _ hx72, ?_⟩;(conv=>whnf);intro b60;(conv=>whnf);refine sr ?_;cases hl4
         ·replace hl4 := ite_f hc38 hl4;(conv=>whnf);refine ⟨(), trivial, Sub.eq rfl ?_ ?_⟩
          ·(repeat ((conv=>whnf);refine nr ?_));exact trivial
          ·(iterate 2 ((conv=>whnf);refine no ?_));exact trivial
       ·rintro _ _;obtain ⟨⟨ra8, rb8, rc8, rd8, re8, rf8, rg8⟩, hx76, h⟩ := obind h;(conv=>whnf);refine CallG.own (ladderDrawFillXC (bo1 := b36) (bo2 := b35) hN hx76) id [] _ (fun y => [(440040, .cells b36 (cD rb8 rc8 rd8 re8 rf8 440038 b35 1695055 y)), (440038, .map b35 (List.map eMR (([] : List (Int × LadderResult))))), (1695055, .arr y 96 2 false (List.map eA2 rg8))]) (all2_le_refl _) (ai (ai trivial)) rfl (ai (ai trivial)) trivial (fun _ => AV.le_refl _) (fun _ => rfl) ?_;rintro hd8 _;(conv=>whnf);refine Br.mk (fun hc40 => ?_) (fun hc40 => ?_)
        ·replace h := ite_t hc40 h;cases h
        ·replace h := ite_f hc40 h;(conv=>whnf);cases h;exact ⟨(b36, b35, hd8), trivial, rfl, inO_at (ren := id) (ai (ai (ai trivial)))⟩
theorem ladderDrawOpenC {N : Nat} (hN : N ≤ 1073741824) {c1 : Int} {c2 : Int} {c3 : Int} {c4 : List LadderResult} {c5 : List LadderPair} {m1 : List (Int × LadderResult)} {l1 : List (Ar2 Int)} {bo1 : Nat} {bo2 : Nat} {ho1 : Value} {r : Unit} (h : ladderDrawOpen N c1 c2 c3 c4 c5 m1 l1 = some r) :
    ACalls Tryz.prog 306 [.ptr 440040 bo1 0] [(440040, .cells bo1 (cD c1 c2 c3 c4 c5 440038 bo2 1695055 ho1)), (440038, .map bo2 (List.map eMR m1)), (1695055, .arr ho1 96 2 false (List.map eA2 l1))] fun ae os => ∃ y : Nat, True ∧ ae = .ret (.fn (.func 319) [] [.ptr 3535001 y 0]) ∧ os = [(440040, .cells bo1 (cD c1 c2 c3 c4 c5 440038 bo2 1695055 ho1)), (440038, .map bo2 (List.map eMR m1)), (1695055, .arr ho1 96 2 false (List.map eA2 l1)), (3535001, .cells y [.ptr 440040 bo1 0])] := by
  refine acalls_own (fresh := false) tt_ok dr_ok ⟨[], [], [], [], [], 3535000, []⟩ Tryz.func306 rfl Tryz.call306 rfl ?_
  unfold ladderDrawOpen at h
  (conv=>whnf);intro b2;(conv=>whnf)
  all_goals cases h
  all_goals exact ⟨b2, trivial, rfl, inO_at (ren := id) (ai (ai (ai (ai trivial))))⟩
theorem ladderDrawWonC {N : Nat} (hN : N ≤ 1073741824) {match1 : Int} {c1 : Int} {c2 : Int} {c3 : Int} {c4 : List LadderResult} {c5 : List LadderPair} {m1 : List (Int × LadderResult)} {l1 : List (Ar2 Int)} {bo1 : Nat} {bo2 : Nat} {ho1 : Value} {r : Int} (h : ladderDrawWon N match1 c1 c2 c3 c4 c5 m1 l1 = some r) :
    ACalls Tryz.prog 179 [.ptr 440040 bo1 0, .d (I match1)] [(440040, .cells bo1 (cD c1 c2 c3 c4 c5 440038 bo2 1695055 ho1)), (440038, .map bo2 (List.map eMR m1)), (1695055, .arr ho1 96 2 false (List.map eA2 l1))] fun ae os => ∃ y : Unit, True ∧ ae = .ret (.d (I r)) ∧ os = [(440040, .cells bo1 (cD c1 c2 c3 c4 c5 440038 bo2 1695055 ho1)), (440038, .map bo2 (List.map eMR m1)), (1695055, .arr ho1 96 2 false (List.map eA2 l1))] := by
  refine acalls_own (fresh := false) tt_ok dr_ok ⟨[], [], [], [], [], 1700000, []⟩ Tryz.func179 rfl Tryz.call179 rfl ?_
  unfold ladderDrawWon at h
  (conv=>whnf);refine sr ?_;obtain ⟨⟨v2, is2⟩, hx2, h⟩ := obind h;(conv=>whnf);refine Side.mk rfl (Need.mk rfl (Need.mk (fit_all (m := m1) (fun x : Int => I x) (fun x : LadderResult => .agg [I x.fMatch, .list 1 (List.map I x.fGames), .bool x.fProtested]) fun _ => rfl) (LkG.mk (.agg [I v2.fMatch, .list 1 (List.map I v2.fGames), .bool v2.fProtested]) is2 (mgt_v (eK := (fun x : Int => I x)) (eV := (fun x : LadderResult => .agg [I x.fMatch, .list 1 (List.map I x.fGames), .bool x.fProtested])) eqc_int hx2) (mgt_b (eK := (fun x : Int => I x)) (eV := (fun x : LadderResult => .agg [I x.fMatch, .list 1 (List.map I x.fGames), .bool x.fProtested])) eqc_int hx2) ?_)));(conv=>whnf);intro b2;(conv=>whnf);refine sr ?_;(conv=>whnf);refine Br.mk (fun hc2 => ?_) (fun hc2 => ?_)
  ·replace h := ite_t hc2 h;(conv=>whnf);cases h;exact ⟨(), trivial, rfl, inO_at (ren := id) (ai (ai (ai trivial)))⟩
  ·replace h := ite_f hc2 h;cases h
theorem ladderDrawScoreC {N : Nat} (hN : N ≤ 1073741824) {match1 : Int} {games1 : List Int} {c1 : Int} {c2 : Int} {c3 : Int} {c4 : List LadderResult} {c5 : List LadderPair} {m1 : List (Int × LadderResult)} {l1 : List (Ar2 Int)} {bo1 : Nat} {bo2 : Nat} {ho1 : Value} {r : (Ar2 Int)} (h : ladderDrawScore N match1 games1 c1 c2 c3 c4 c5 m1 l1 = some r) :
    ACalls Tryz.prog 261 [.ptr 440040 bo1 0, .d (I match1), .d (.list 1 (List.map I games1))] [(440040, .cells bo1 (cD c1 c2 c3 c4 c5 440038 bo2 1695055 ho1)), (440038, .map bo2 (List.map eMR m1)), (1695055, .arr ho1 96 2 false (List.map eA2 l1))] fun ae os => ∃ y : Unit, True ∧ ae = .ret (.d (.agg [I r.a0, I r.a1])) ∧ os = [(440040, .cells bo1 (cD c1 c2 c3 c4 c5 440038 bo2 1695055 ho1)), (440038, .map bo2 (List.map eMR m1)), (1695055, .arr ho1 96 2 false (List.map eA2 l1))] := by
  refine acalls_own (fresh := false) tt_ok dr_ok ⟨[], [], [], [], [1003], 1700000, []⟩ Tryz.func261 rfl Tryz.call261 rfl ?_
  unfold ladderDrawScore at h
  (conv=>whnf);intro b2;(conv=>whnf);refine sr ?_;obtain ⟨x52, hx54, h⟩ := obind h;(conv=>whnf);refine Side.mk ⟨rfl, rfl⟩ (Need.mk (idx_need _ hx54) ?_);(conv=>whnf);refine Side.mk ⟨rfl, rfl⟩ ⟨_, Int.natCast_nonneg _, idx_el _ hx54, ?_⟩;(conv=>whnf);refine LoopG.unr 3 ?_;obtain ⟨_, hx67, h⟩ := obind h;(conv=>whnf)
  refine SeqG.mk Unit (fun y => [(2, .d (.list 1 (List.map I games1))), (6, .ptr 1700006 b2 0), (17, .d (.agg [I x52.a0, I x52.a1])), (18, .i .i64 0)]) (fun y => [(1700006, .cells b2 [.d (I 0), .d (I 0)]), (440040, .cells bo1 (cD c1 c2 c3 c4 c5 440038 bo2 1695055 ho1)), (440038, .map bo2 (List.map eMR m1)), (1695055, .arr ho1 96 2 false (List.map eA2 l1))]) (fun _ => True) ?_ ?_
  ·(conv=>whnf);refine IxG.mk 0 rfl (by decide) ?_;(conv=>whnf);refine LnA.mk _ (List.length_map _) ?_;(conv=>whnf)
   refine LoopG.mk (Nat × Int) (fun y => [(2, .d (.list 1 (List.map I games1))), (6, .ptr 1700006 b2 0), (7, .i .i64 0), (8, .d (I x52.a0)), (17, .d (.agg [I x52.a0, I x52.a1])), (18, .i .i64 0), (22, .d (.list 1 (List.map I games1))), (23, .d (I y.2)), (24, .i .i64 0)]) (fun y => [(1700006, .cells b2 [.d (I 0), .d (I 0)]), (440040, .cells bo1 (cD c1 c2 c3 c4 c5 440038 bo2 1695055 ho1)), (440038, .map bo2 (List.map eMR m1)), (1695055, .arr ho1 96 2 false (List.map eA2 l1))]) (fun y => loopN (fun rr x => ladderDrawScore_b1 N games1 rr x) y.1 y.2 = some ()) (fun y => y.1) (N, (games1.length : Int)) hx67 (Sub.eq rfl ?_ ?_) ?_
   ·(repeat ((conv=>whnf);refine nr ?_));exact trivial
   ·(iterate 4 ((conv=>whnf);refine no ?_));exact trivial
   ·rintro ⟨n6, v30⟩ hl6;obtain ⟨n6, rfl, hl6⟩ := loopN_some hl6;replace hl6 : ladderDrawScore_b1 N games1 (loopN (fun rr x => ladderDrawScore_b1 N games1 rr x) n6) v30 = some () := hl6;rw [ladderDrawScore_b1] at hl6;(conv=>whnf);refine Br.mk (fun hc36 => ?_) (fun hc36 => ?_)
    ·replace hl6 := ite_t hc36 hl6;obtain ⟨x76, hx79, hl6⟩ := obind hl6;(conv=>whnf);refine Side.mk rfl ⟨_, idx_0 hx79, idx_map _ hx79, ?_⟩;cases hl6
    ·replace hl6 := ite_f hc36 hl6;(conv=>whnf);refine ⟨(), trivial, Sub.eq rfl ?_ ?_⟩
     ·(repeat ((conv=>whnf);refine nr ?_));exact trivial
     ·(iterate 4 ((conv=>whnf);refine no ?_));exact trivial
  ·rintro _ _;obtain ⟨_, hx92, h⟩ := obind h;(conv=>whnf);refine SeqG.mk Unit (fun y => [(2, .d (.list 1 (List.map I games1))), (6, .ptr 1700006 b2 0), (17, .d (.agg [I x52.a0, I x52.a1])), (18, .i .i64 1)]) (fun y => [(1700006, .cells b2 [.d (I 0), .d (I 0)]), (440040, .cells bo1 (cD c1 c2 c3 c4 c5 440038 bo2 1695055 ho1)), (440038, .map bo2 (List.map eMR m1)), (1695055, .arr ho1 96 2 false (List.map eA2 l1))]) (fun _ => True) ?_ ?_
   ·(conv=>whnf);refine IxG.mk 1 rfl (by decide) ?_;(conv=>whnf);refine LnA.mk _ (List.length_map _) ?_;(conv=>whnf)
    refine LoopG.mk (Nat × Int) (fun y => [(2, .d (.list 1 (List.map I games1))), (6, .ptr 1700006 b2 0), (7, .i .i64 1), (8, .d (I x52.a1)), (17, .d (.agg [I x52.a0, I x52.a1])), (18, .i .i64 1), (22, .d (.list 1 (List.map I games1))), (23, .d (I y.2)), (24, .i .i64 0)]) (fun y => [(1700006, .cells b2 [.d (I 0), .d (I 0)]), (440040, .cells bo1 (cD c1 c2 c3 c4 c5 440038 bo2 1695055 ho1)), (440038, .map bo2 (List.map eMR m1)), (1695055, .arr ho1 96 2 false (List.map eA2 l1))]) (fun y => loopN (fun rr x => ladderDrawScore_b2 N games1 rr x) y.1 y.2 = some ()) (fun y => y.1) (N, (games1.length : Int)) hx92 (Sub.eq rfl ?_ ?_) ?_
    ·(repeat ((conv=>whnf);refine nr ?_));exact trivial
    ·(iterate 4 ((conv=>whnf);refine no ?_));exact trivial
    ·rintro ⟨n8, v40⟩ hl8;obtain ⟨n8, rfl, hl8⟩ := loopN_some hl8;replace hl8 : ladderDrawScore_b2 N games1 (loopN (fun rr x => ladderDrawScore_b2 N games1 rr x) n8) v40 = some () := hl8;rw [ladderDrawScore_b2] at hl8;(conv=>whnf);refine Br.mk (fun hc48 => ?_) (fun hc48 => ?_)
     ·replace hl8 := ite_t hc48 hl8;obtain ⟨x100, hx104, hl8⟩ := obind hl8;(conv=>whnf);refine Side.mk rfl ⟨_, idx_0 hx104, idx_map _ hx104, ?_⟩;cases hl8
     ·replace hl8 := ite_f hc48 hl8;(conv=>whnf);refine ⟨(), trivial, Sub.eq rfl ?_ ?_⟩
      ·(repeat ((conv=>whnf);refine nr ?_));exact trivial
      ·(iterate 4 ((conv=>whnf);refine no ?_));exact trivial
   ·rintro _ _;(iterate 3 ((conv=>whnf);refine sr ?_));(conv=>whnf);cases h;exact ⟨(), trivial, rfl, inO_at (ren := id) (ai (ai (ai trivial)))⟩
theorem slicesAppendSeqC {N : Nat} (hN : N ≤ 1073741824) {c1 : Int} {c2 : Int} {c3 : Int} {c4 : List LadderResult} {c5 : List LadderPair} {m1 : List (Int × LadderResult)} {l1 : List (Ar2 Int)} {bo1 : Nat} {bo2 : Nat} {bo3 : Nat} {ho1 : Value} {r : (List LadderMatch)} (h : slicesAppendSeq N c1 c2 c3 c4 c5 m1 l1 = some r) :
    ACalls Tryz.prog 318 [.nils 5, .fn (.func 319) [] [.ptr 3535001 bo1 0]] [(3535001, .cells bo1 [.ptr 440040 bo2 0]), (440040, .cells bo2 (cD c1 c2 c3 c4 c5 440038 bo3 1695055 ho1)), (440038, .map bo3 (List.map eMR m1)), (1695055, .arr ho1 96 2 false (List.map eA2 l1))] fun ae os => ∃ y : Unit, True ∧ ae = .ret (.d (.list 5 (List.map LadderMatch.enc r))) ∧ os = [(3535001, .cells bo1 [.ptr 440040 bo2 0]), (440040, .cells bo2 (cD c1 c2 c3 c4 c5 440038 bo3 1695055 ho1)), (440038, .map bo3 (List.map eMR m1)), (1695055, .arr ho1 96 2 false (List.map eA2 l1))] := by
  refine acalls_own (fresh := false) tt_ok dr_ok ⟨[], [], [], [], [1001], 3540000, []⟩ Tryz.func318 rfl Tryz.call318 rfl ?_
  unfold slicesAppendSeq at h
  (conv=>whnf);intro b2;obtain ⟨l24, hx94, h⟩ := obind h;(conv=>whnf);refine SeqG.mk Value (fun y => [(2, .ptr 3540002 b2 0)]) (fun y => [(3540002, .cells b2 [.sl 3540011 y]), (3535001, .cells bo1 [.ptr 440040 bo2 0]), (3540011, .arr y 383 5 false (List.map LadderMatch.enc l24)), (440040, .cells bo2 (cD c1 c2 c3 c4 c5 440038 bo3 1695055 ho1)), (440038, .map bo3 (List.map eMR m1)), (1695055, .arr ho1 96 2 false (List.map eA2 l1))]) (fun _ => True) ?_ ?_
  ·(conv=>whnf);intro lp2 rc2;refine IterG.mk _ _ ⟨[], [], [], [], [3, 4, 1002], 2000, []⟩ Tryz.func319 rfl Tryz.call319 rfl rfl ?_;(iterate 2 ((conv=>whnf);refine sr ?_));(conv=>whnf);refine Side.mk rfl (LnA.mk _ (List.length_map _) ?_);(conv=>whnf)
   refine LoopG.mk (Nat × (Int × Int × (List LadderMatch)) × Value) (fun y => [(0, .fn (.yield lp2) [] []), (1, .ptr 3535001 bo1 0), (9, .sl 1695055 ho1), (10, .d (I y.2.1.1)), (11, .d (I y.2.1.2.1))]) (fun y => [(3535001, .cells bo1 [.ptr 440040 bo2 0]), (1695055, .arr ho1 96 2 false (List.map eA2 l1)), (3540002, .cells b2 [.sl 3540011 y.2.2]), (1000, .loop lp2 rc2 none), (440040, .cells bo2 (cD c1 c2 c3 c4 c5 440038 bo3 1695055 ho1)), (3540011, .arr y.2.2 383 5 false (List.map LadderMatch.enc y.2.1.2.2)), (440038, .map bo3 (List.map eMR m1))]) (fun y => loopN (fun rr x => slicesAppendSeq_b1 N c1 c2 c3 c4 c5 m1 l1 rr x.1 x.2.1 x.2.2) y.1 y.2.1 = some l24) (fun y => y.1) (N, ((l1.length : Int), 0, []), (.slice none 0 0)) hx94 (Sub.eq rfl ?_ ?_) ?_
   ·(repeat ((conv=>whnf);refine nr ?_));exact trivial
   ·(iterate 2 ((conv=>whnf);refine no ?_));(conv=>whnf);refine Need.mk (OLe.cells _ _ _ (by repeat (first | exact trivial | ((conv => whnf); refine Need.mk rfl ?_)))) ?_;(iterate 2 ((conv=>whnf);refine no ?_));(conv=>whnf);refine Need.mk (OLe.nil _ _ _ _) ?_;(conv=>whnf);refine no ?_;exact trivial
   ·rintro ⟨n2, ⟨v77, v78, l40⟩, hd59⟩ hl2;obtain ⟨n2, rfl, hl2⟩ := loopN_some hl2;replace hl2 : slicesAppendSeq_b1 N c1 c2 c3 c4 c5 m1 l1 (loopN (fun rr x => slicesAppendSeq_b1 N c1 c2 c3 c4 c5 m1 l1 rr x.1 x.2.1 x.2.2) n2) v77 v78 l40 = some l24 := hl2;rw [slicesAppendSeq_b1] at hl2;(conv=>whnf);refine Br.mk (fun hc112 => ?_) (fun hc112 => ?_)
    ·replace hl2 := ite_t hc112 hl2;obtain ⟨l44, hx172, hl2⟩ := obind hl2;(conv=>whnf);refine SeqG.mk Value (fun y => [(0, .fn (.yield lp2) [] []), (1, .ptr 3535001 bo1 0), (9, .sl 1695055 ho1), (10, .d (I v77)), (11, .d (I v78))]) (fun y => [(3535001, .cells bo1 [.ptr 440040 bo2 0]), (1695055, .arr ho1 96 2 false (List.map eA2 l1)), (3540002, .cells b2 [.sl 3540011 y]), (1000, .loop lp2 rc2 none), (440040, .cells bo2 (cD c1 c2 c3 c4 c5 440038 bo3 1695055 ho1)), (3540011, .arr y 383 5 false (List.map LadderMatch.enc l44)), (440038, .map bo3 (List.map eMR m1))]) (fun _ => True) ?_ ?_
     ·obtain ⟨x24, hx174, hx172⟩ := obind hx172;(conv=>whnf);refine Side.mk ⟨rfl, rfl⟩ (Need.mk (idx_need _ hx174) ?_);(conv=>whnf);refine Side.mk ⟨rfl, rfl⟩ ⟨_, Int.natCast_nonneg _, idx_el _ hx174, ?_⟩;(conv=>whnf);intro b136;(conv=>whnf);refine sr ?_;obtain ⟨v88, hx179, hx172⟩ := obind hx172;(conv=>whnf)
      refine SeqG.mk Unit (fun y => [(0, .fn (.yield lp2) [] []), (1, .ptr 3535001 bo1 0), (3, .d (I v78)), (4, .ptr 2004 b136 0), (9, .sl 1695055 ho1), (10, .d (I v77)), (11, .d (I v78)), (29, .d (.bool v88))]) (fun y => [(3535001, .cells bo1 [.ptr 440040 bo2 0]), (2004, .cells b136 [.d (I x24.a0), .d (I x24.a1)]), (1695055, .arr ho1 96 2 false (List.map eA2 l1)), (3540002, .cells b2 [.sl 3540011 hd59]), (1000, .loop lp2 rc2 none), (440040, .cells bo2 (cD c1 c2 c3 c4 c5 440038 bo3 1695055 ho1)), (3540011, .arr hd59 383 5 false (List.map LadderMatch.enc l40)), (440038, .map bo3 (List.map eMR m1))]) (fun _ => True) ?_ ?_
      ·(conv=>whnf);refine IxG.mk 0 rfl (by decide) ?_;(conv=>whnf);refine sr ?_;(conv=>whnf);refine Br.mk (fun hc130 => ?_) (fun hc130 => ?_)
       ·replace hx179 := ite_f hc130 hx179;(conv=>whnf);refine IxG.mk 1 rfl (by decide) ?_;(conv=>whnf);refine sr ?_;(conv=>whnf);refine Br.mk (fun hc131 => ?_) (fun hc131 => ?_)
        ·replace hx179 := ite_f hc131 hx179;(conv=>whnf);refine sr ?_;obtain ⟨r70, hx180, hx179⟩ := obind hx179;(conv=>whnf)
         refine CallG.own (ladderDrawWonC (bo1 := bo2) (bo2 := bo3) (ho1 := ho1) hN hx180) id [(3535001, .cells bo1 [.ptr 440040 bo2 0]), (3540002, .cells b2 [.sl 3540011 hd59]), (1000, .loop lp2 rc2 none), (3540011, .arr hd59 383 5 false (List.map LadderMatch.enc l40)), (2004, .cells b136 [.d (I x24.a0), .d (I x24.a1)])] _ (fun y => [(440040, .cells bo2 (cD c1 c2 c3 c4 c5 440038 bo3 1695055 ho1)), (440038, .map bo3 (List.map eMR m1)), (1695055, .arr ho1 96 2 false (List.map eA2 l1)), (3535001, .cells bo1 [.ptr 440040 bo2 0]), (3540002, .cells b2 [.sl 3540011 hd59]), (1000, .loop lp2 rc2 none), (3540011, .arr hd59 383 5 false (List.map LadderMatch.enc l40)), (2004, .cells b136 [.d (I x24.a0), .d (I x24.a1)])]) (all2_le_refl _) (ai (ai (ai trivial))) rfl (ai (ai (ai trivial))) (ai (ai (ai (ai (ai trivial))))) (fun _ => AV.le_refl _) (fun _ => rfl) ?_
         rintro _ _;cases hx179;(conv=>whnf);refine ⟨(), trivial, Sub.eq rfl ?_ ?_⟩
         ·(repeat ((conv=>whnf);refine nr ?_));exact trivial
         ·(iterate 8 ((conv=>whnf);refine no ?_));exact trivial
        ·replace hx179 := ite_t hc131 hx179;cases hx179;(conv=>whnf);refine ⟨(), trivial, Sub.eq rfl ?_ ?_⟩
         ·(repeat ((conv=>whnf);refine nr ?_));exact trivial
         ·(iterate 8 ((conv=>whnf);refine no ?_));exact trivial
       ·replace hx179 := ite_t hc130 hx179;cases hx179;(conv=>whnf);refine ⟨(), trivial, Sub.eq rfl ?_ ?_⟩
        ·(repeat ((conv=>whnf);refine nr ?_));exact trivial
        ·(iterate 8 ((conv=>whnf);refine no ?_));exact trivial
      ·rintro _ _;(conv=>whnf);refine Br.mk (fun hc132 => ?_) (fun hc132 => ?_)
       ·replace hx172 := ite_t hc132 hx172;cases hx172;(conv=>whnf);refine ⟨hd59, trivial, Sub.eq rfl ?_ ?_⟩
        ·(repeat ((conv=>whnf);refine nr ?_));exact trivial
        ·(iterate 7 ((conv=>whnf);refine no ?_));exact trivial
       ·replace hx172 := ite_f hc132 hx172;obtain ⟨c29, hx183, hx172⟩ := obind hx172;(conv=>whnf)
        refine SeqG.mk Nat (fun y => [(0, .fn (.yield lp2) [] []), (1, .ptr 3535001 bo1 0), (3, .d (I v78)), (4, .ptr 2004 b136 0), (5, .ptr 2005 y 0), (9, .sl 1695055 ho1), (10, .d (I v77)), (11, .d (I v78))]) (fun y => [(3535001, .cells bo1 [.ptr 440040 bo2 0]), (2004, .cells b136 [.d (I x24.a0), .d (I x24.a1)]), (2005, .cells y [.d (I c29.a0), .d (I c29.a1)]), (1695055, .arr ho1 96 2 false (List.map eA2 l1)), (3540002, .cells b2 [.sl 3540011 hd59]), (1000, .loop lp2 rc2 none), (440040, .cells bo2 (cD c1 c2 c3 c4 c5 440038 bo3 1695055 ho1)), (3540011, .arr hd59 383 5 false (List.map LadderMatch.enc l40)), (440038, .map bo3 (List.map eMR m1))]) (fun _ => True) ?_ ?_
        ·obtain ⟨⟨v90, is24⟩, hx184, hx183⟩ := obind hx183;obtain ⟨r72, hx185, hx183⟩ := obind hx183;(conv=>whnf);refine DrawG.mk (.take 0 (.take 1 (.take 2 (.take 3 (.take 4 (.take 5 (.take 6 (.alt 7 [4, 3, 2, 1, 0] (.take 8 (.alt 9 [4, 3, 2] (.alt 10 [4, 3, 2] (.alt 11 [] .done .nil) .nil) (.alt 10 [8, 4, 3, 2, 1, 0] (.alt 9 [4, 3, 2] (.alt 11 [] .done .nil) .nil) .nil))) (.alt 10 [6, 5, 4, 3, 2, 1, 0] (.alt 7 [4, 3, 2, 1, 0] (.take 8 (.alt 9 [4, 3, 2] (.alt 11 [] .done .nil) .nil)) .nil) .nil))))))))) (by kernel_rfl) ?_;(iterate 3 ((conv=>whnf);refine sr ?_));(conv=>whnf);refine Both.mk ?_ ?_
         ·(conv=>whnf);refine Side.mk rfl (Need.mk rfl (Need.mk (fit_all (m := m1) (fun x : Int => I x) (fun x : LadderResult => .agg [I x.fMatch, .list 1 (List.map I x.fGames), .bool x.fProtested]) fun _ => rfl) (LkG.mk (.agg [I v90.fMatch, .list 1 (List.map I v90.fGames), .bool v90.fProtested]) is24 (mgt_v (eK := (fun x : Int => I x)) (eV := (fun x : LadderResult => .agg [I x.fMatch, .list 1 (List.map I x.fGames), .bool x.fProtested])) eqc_int hx184) (mgt_b (eK := (fun x : Int => I x)) (eV := (fun x : LadderResult => .agg [I x.fMatch, .list 1 (List.map I x.fGames), .bool x.fProtested])) eqc_int hx184) ?_)));(iterate 2 ((conv=>whnf);refine nl ?_));(conv=>whnf);refine sr ?_;(iterate 2 ((conv=>whnf);refine nl ?_));(conv=>whnf);refine sr ?_;(conv=>whnf);refine nl ?_;(conv=>whnf);refine Both.mk ?_ ?_
          ·(conv=>whnf)
           refine CallG.own (ladderDrawScoreC (bo1 := bo2) (bo2 := bo3) (ho1 := ho1) hN hx185) id [(3535001, .cells bo1 [.ptr 440040 bo2 0]), (2004, .cells b136 [.d (I x24.a0), .d (I x24.a1)]), (3540002, .cells b2 [.sl 3540011 hd59]), (1000, .loop lp2 rc2 none), (3540011, .arr hd59 383 5 false (List.map LadderMatch.enc l40))] _ (fun y => [(440040, .cells bo2 (cD c1 c2 c3 c4 c5 440038 bo3 1695055 ho1)), (440038, .map bo3 (List.map eMR m1)), (1695055, .arr ho1 96 2 false (List.map eA2 l1)), (3535001, .cells bo1 [.ptr 440040 bo2 0]), (2004, .cells b136 [.d (I x24.a0), .d (I x24.a1)]), (3540002, .cells b2 [.sl 3540011 hd59]), (1000, .loop lp2 rc2 none), (3540011, .arr hd59 383 5 false (List.map LadderMatch.enc l40))]) (all2_le_refl _) (ai (ai (ai trivial))) rfl (ai (ai (ai trivial))) (ai (ai (ai (ai (ai trivial))))) (fun _ => AV.le_refl _) (fun _ => rfl) ?_
           rintro _ _;(iterate 2 ((conv=>whnf);refine nl ?_));(conv=>whnf);refine sr ?_;(conv=>whnf);refine nl ?_;(conv=>whnf);refine Both.mk ?_ trivial;(conv=>whnf);intro b142;(iterate 2 ((conv=>whnf);refine nl ?_));(conv=>whnf);refine sr ?_;(conv=>whnf);refine nl ?_;(conv=>whnf);refine Both.mk ?_ trivial;(conv=>whnf);refine sr ?_;cases hx183;(conv=>whnf);refine ⟨b142, trivial, Sub.eq rfl ?_ ?_⟩
           ·(repeat ((conv=>whnf);refine nr ?_));exact trivial
           ·(iterate 9 ((conv=>whnf);refine no ?_));exact trivial
          ·(conv=>whnf);refine Both.mk ?_ trivial;(conv=>whnf);intro b143;(iterate 3 ((conv=>whnf);refine nl ?_));(conv=>whnf);refine sr ?_;(iterate 2 ((conv=>whnf);refine nl ?_));(conv=>whnf);refine sr ?_;(conv=>whnf);refine nl ?_;(conv=>whnf);refine Both.mk ?_ trivial;(conv=>whnf)
           refine CallG.own (ladderDrawScoreC (bo1 := bo2) (bo2 := bo3) (ho1 := ho1) hN hx185) id [(3535001, .cells bo1 [.ptr 440040 bo2 0]), (2004, .cells b136 [.d (I x24.a0), .d (I x24.a1)]), (3540002, .cells b2 [.sl 3540011 hd59]), (1000, .loop lp2 rc2 none), (3540011, .arr hd59 383 5 false (List.map LadderMatch.enc l40)), (2005, .cells b143 [.d (I 0), .d (I 0)])] _ (fun y => [(440040, .cells bo2 (cD c1 c2 c3 c4 c5 440038 bo3 1695055 ho1)), (440038, .map bo3 (List.map eMR m1)), (1695055, .arr ho1 96 2 false (List.map eA2 l1)), (3535001, .cells bo1 [.ptr 440040 bo2 0]), (2004, .cells b136 [.d (I x24.a0), .d (I x24.a1)]), (3540002, .cells b2 [.sl 3540011 hd59]), (1000, .loop lp2 rc2 none), (3540011, .arr hd59 383 5 false (List.map LadderMatch.enc l40)), (2005, .cells b143 [.d (I 0), .d (I 0)])]) (all2_le_refl _) (ai (ai (ai trivial))) rfl (ai (ai (ai trivial))) (ai (ai (ai (ai (ai (ai trivial)))))) (fun _ => AV.le_refl _) (fun _ => rfl) ?_
           rintro _ _;(iterate 2 ((conv=>whnf);refine nl ?_));(conv=>whnf);refine sr ?_;(conv=>whnf);refine nl ?_;(conv=>whnf);refine Both.mk ?_ trivial;(conv=>whnf);refine sr ?_;cases hx183;(conv=>whnf);refine ⟨b143, trivial, Sub.eq rfl ?_ ?_⟩
           ·(repeat ((conv=>whnf);refine nr ?_));exact trivial
           ·(iterate 9 ((conv=>whnf);refine no ?_));exact trivial
         ·(conv=>whnf);refine Both.mk ?_ trivial;(conv=>whnf);intro b144;(conv=>whnf);refine nl ?_;(conv=>whnf);refine sr ?_;(iterate 3 ((conv=>whnf);refine nl ?_));(conv=>whnf);refine sr ?_;(iterate 2 ((conv=>whnf);refine nl ?_));(conv=>whnf);refine sr ?_;(conv=>whnf);refine nl ?_;(conv=>whnf);refine Both.mk ?_ trivial;(conv=>whnf)
          refine Side.mk rfl (Need.mk rfl (Need.mk (fit_all (m := m1) (fun x : Int => I x) (fun x : LadderResult => .agg [I x.fMatch, .list 1 (List.map I x.fGames), .bool x.fProtested]) fun _ => rfl) (LkG.mk (.agg [I v90.fMatch, .list 1 (List.map I v90.fGames), .bool v90.fProtested]) is24 (mgt_v (eK := (fun x : Int => I x)) (eV := (fun x : LadderResult => .agg [I x.fMatch, .list 1 (List.map I x.fGames), .bool x.fProtested])) eqc_int hx184) (mgt_b (eK := (fun x : Int => I x)) (eV := (fun x : LadderResult => .agg [I x.fMatch, .list 1 (List.map I x.fGames), .bool x.fProtested])) eqc_int hx184) ?_)));(iterate 2 ((conv=>whnf);refine nl ?_));(conv=>whnf);refine sr ?_;(iterate 2 ((conv=>whnf);refine nl ?_));(conv=>whnf);refine sr ?_;(conv=>whnf);refine nl ?_;(conv=>whnf);refine Both.mk ?_ trivial;(conv=>whnf)
          refine CallG.own (ladderDrawScoreC (bo1 := bo2) (bo2 := bo3) (ho1 := ho1) hN hx185) id [(3535001, .cells bo1 [.ptr 440040 bo2 0]), (2004, .cells b136 [.d (I x24.a0), .d (I x24.a1)]), (3540002, .cells b2 [.sl 3540011 hd59]), (1000, .loop lp2 rc2 none), (3540011, .arr hd59 383 5 false (List.map LadderMatch.enc l40)), (2005, .cells b144 [.d (I 0), .d (I 0)])] _ (fun y => [(440040, .cells bo2 (cD c1 c2 c3 c4 c5 440038 bo3 1695055 ho1)), (440038, .map bo3 (List.map eMR m1)), (1695055, .arr ho1 96 2 false (List.map eA2 l1)), (3535001, .cells bo1 [.ptr 440040 bo2 0]), (2004, .cells b136 [.d (I x24.a0), .d (I x24.a1)]), (3540002, .cells b2 [.sl 3540011 hd59]), (1000, .loop lp2 rc2 none), (3540011, .arr hd59 383 5 false (List.map LadderMatch.enc l40)), (2005, .cells b144 [.d (I 0), .d (I 0)])]) (all2_le_refl _) (ai (ai (ai trivial))) rfl (ai (ai (ai trivial))) (ai (ai (ai (ai (ai (ai trivial)))))) (fun _ => AV.le_refl _) (fun _ => rfl) ?_
          rintro _ _;(iterate 2 ((conv=>whnf);refine nl ?_));(conv=>whnf);refine sr ?_;(conv=>whnf);refine nl ?_;(conv=>whnf);refine Both.mk ?_ trivial;(conv=>whnf);refine sr ?_;cases hx183;(conv=>whnf);refine ⟨b144, trivial, Sub.eq rfl ?_ ?_⟩
          ·(repeat ((conv=>whnf);refine nr ?_));exact trivial
          ·(iterate 9 ((conv=>whnf);refine no ?_));exact trivial
        ·rintro bb24 _;(conv=>whnf);refine IxG.mk 0 rfl (by decide) ?_;(conv=>whnf);refine sr ?_;(conv=>whnf);refine IxG.mk 1 rfl (by decide) ?_;(conv=>whnf);refine sr ?_;(conv=>whnf);refine IxG.mk 0 rfl (by decide) ?_;(conv=>whnf);refine sr ?_;(conv=>whnf);refine IxG.mk 1 rfl (by decide) ?_;(conv=>whnf);refine sr ?_;(conv=>whnf);refine Side.mk ⟨rfl, rfl, rfl⟩ ?_;(conv=>whnf);intro b146;(iterate 3 ((conv=>whnf);refine sr ?_));(conv=>whnf);intro hd68;obtain ⟨l46, hx187, hx172⟩ := obind hx172;(conv=>whnf);refine Side.mk ⟨rfl, rfl⟩ ?_;(conv=>whnf);refine Side.mk ⟨rfl, rfl, rfl⟩ (Need.mk (app_need hN hx187 (by decide)) (Eqv.mk (List.map LadderMatch.enc l46) (app_map _ hx187) ?_));(conv=>whnf);intro hd69;(conv=>whnf);refine sr ?_;cases hx172;(conv=>whnf);refine ⟨hd69, trivial, Sub.eq rfl ?_ ?_⟩
         ·(repeat ((conv=>whnf);refine nr ?_));exact trivial
         ·(iterate 7 ((conv=>whnf);refine no ?_));exact trivial
     ·rintro hd65 _;(conv=>whnf);refine ⟨(n2, (v77, w64 (v78 + 1), l44), hd65), hl2, Sub.eq rfl ?_ ?_, Nat.lt_succ_self _⟩
      ·(repeat ((conv=>whnf);refine nr ?_));exact trivial
      ·(iterate 7 ((conv=>whnf);refine no ?_));exact trivial
    ·replace hl2 := ite_f hc112 hl2;(conv=>whnf);refine Side.mk ⟨rfl, rfl⟩ ?_;cases hl2;(conv=>whnf);refine ⟨hd59, trivial, Sub.eq rfl ?_ ?_⟩
     ·(repeat ((conv=>whnf);refine nr ?_));exact trivial
     ·(iterate 6 ((conv=>whnf);refine no ?_));exact trivial
  ·rintro hd35 _;(iterate 2 ((conv=>whnf);refine sr ?_));(conv=>whnf);cases h;exact ⟨(), trivial, rfl, inO_at (ren := id) (ai (ai (ai (ai trivial))))⟩
theorem slicesCollectC {N : Nat} (hN : N ≤ 1073741824) {c1 : Int} {c2 : Int} {c3 : Int} {c4 : List LadderResult} {c5 : List LadderPair} {m1 : List (Int × LadderResult)} {l1 : List (Ar2 Int)} {bo1 : Nat} {bo2 : Nat} {bo3 : Nat} {ho1 : Value} {r : (List LadderMatch)} (h : slicesCollect N c1 c2 c3 c4 c5 m1 l1 = some r) :
    ACalls Tryz.prog 305 [.fn (.func 319) [] [.ptr 3535001 bo1 0]] [(3535001, .cells bo1 [.ptr 440040 bo2 0]), (440040, .cells bo2 (cD c1 c2 c3 c4 c5 440038 bo3 1695055 ho1)), (440038, .map bo3 (List.map eMR m1)), (1695055, .arr ho1 96 2 false (List.map eA2 l1))] fun ae os => ∃ y : Unit, True ∧ ae = .ret (.d (.list 5 (List.map LadderMatch.enc r))) ∧ os = [(3535001, .cells bo1 [.ptr 440040 bo2 0]), (440040, .cells bo2 (cD c1 c2 c3 c4 c5 440038 bo3 1695055 ho1)), (440038, .map bo3 (List.map eMR m1)), (1695055, .arr ho1 96 2 false (List.map eA2 l1))] := by
  refine acalls_own (fresh := false) tt_ok dr_ok ⟨[], [], [4], [], [], 3540000, []⟩ Tryz.func305 rfl Tryz.call305 rfl ?_
  unfold slicesCollect at h
  obtain ⟨r2, hx2, h⟩ := obind h;(conv=>whnf);refine CallG.own (slicesAppendSeqC (bo1 := bo1) (bo2 := bo2) (bo3 := bo3) (ho1 := ho1) hN hx2) id [] _ (fun y => [(3535001, .cells bo1 [.ptr 440040 bo2 0]), (440040, .cells bo2 (cD c1 c2 c3 c4 c5 440038 bo3 1695055 ho1)), (440038, .map bo3 (List.map eMR m1)), (1695055, .arr ho1 96 2 false (List.map eA2 l1))]) (all2_le_refl _) (ai (ai (ai (ai trivial)))) rfl (ai (ai (ai (ai trivial)))) trivial (fun _ => AV.le_refl _) (fun _ => rfl) ?_;rintro _ _;(conv=>whnf);cases h
  exact ⟨(), trivial, rfl, inO_at (ren := id) (ai (ai (ai (ai trivial))))⟩
theorem ladderNextC {N : Nat} (hN : N ≤ 1073741824) {c1 : LadderCup} {r : (List LadderMatch) × Int} (h : ladderNext N c1 = some r) :
    ACalls Tryz.prog 281 [.d (.agg [.int .u8 c1.fForm, I c1.fPlayers, I c1.fGames, .list 3 (List.map LadderResult.enc c1.fResults)])] [] fun e os => e = .ret (.d (.tup [.list 5 (List.map LadderMatch.enc r.1), I r.2])) ∧ os = [] := by
  refine acalls_f (fresh := false) tt_ok dr_ok ⟨[1], [], [], [], [], 0, []⟩ Tryz.func281 rfl Tryz.call281 rfl ?_
  unfold ladderNext at h
  obtain ⟨⟨ra2, rb2, rc2, rd2, re2, rf2, rg2, rh2⟩, hx2, h⟩ := obind h;(conv=>whnf);refine CallG.own (ladderCupDrawC hN hx2) id [] _ (fun y => [(440040, .cells y.1 (cD rb2 rc2 rd2 re2 rf2 440038 y.2.1 1695055 y.2.2)), (440038, .map y.2.1 (List.map eMR rg2)), (1695055, .arr y.2.2 96 2 false (List.map eA2 rh2))]) (all2_le_refl _) trivial rfl trivial trivial (fun _ => AV.le_refl _) (fun _ => rfl) ?_;rintro ⟨b3, b4, hd2⟩ _;(conv=>whnf);refine Br.mk (fun hc2 => ?_) (fun hc2 => ?_)
  ·replace h := ite_t hc2 h;cases h
  ·replace h := ite_f hc2 h;obtain ⟨_, hx5, h⟩ := obind h;(conv=>whnf);refine CallG.own (ladderDrawOpenC (bo1 := b3) (bo2 := b4) (ho1 := hd2) hN hx5) id [] _ (fun y => [(440040, .cells b3 (cD rb2 rc2 rd2 re2 rf2 440038 b4 1695055 hd2)), (440038, .map b4 (List.map eMR rg2)), (1695055, .arr hd2 96 2 false (List.map eA2 rh2)), (3535001, .cells y [.ptr 440040 b3 0])]) (all2_le_refl _) (ai (ai (ai trivial))) rfl (ai (ai (ai trivial))) trivial (fun _ => AV.le_refl _) (fun _ => rfl) ?_;rintro b6 _;obtain ⟨r2, hx6, h⟩ := obind h;(conv=>whnf)
   refine CallG.own (slicesCollectC (bo1 := b6) (bo2 := b3) (bo3 := b4) (ho1 := hd2) hN hx6) id [] _ (fun y => [(3535001, .cells b6 [.ptr 440040 b3 0]), (440040, .cells b3 (cD rb2 rc2 rd2 re2 rf2 440038 b4 1695055 hd2)), (440038, .map b4 (List.map eMR rg2)), (1695055, .arr hd2 96 2 false (List.map eA2 rh2))]) (all2_le_refl _) (ai (ai (ai (ai trivial)))) rfl (ai (ai (ai (ai trivial)))) trivial (fun _ => AV.le_refl _) (fun _ => rfl) ?_;rintro _ _;(conv=>whnf);cases h;exact rfl
theorem slicesCloneXXXX0C {N : Nat} (hN : N ≤ 1073741824)  {r : Unit} (h : slicesCloneXXXX0 N = some r) :
    ACalls Tryz.prog 284 [.nils 3] [] fun e os => e = .ret (.nils 3) ∧ os = [] := by
  refine acalls_f (fresh := true) tt_ok dr_ok ⟨[], [], [], [], [], 0, []⟩ Tryz.func284 rfl Tryz.call284 rfl ?_
  unfold slicesCloneXXXX0 at h
  (conv=>whnf)
  all_goals exact rfl
theorem slicesCloneXXXX1C {N : Nat} (hN : N ≤ 1073741824) {s1 : List LadderResult} {r : (List LadderResult)} (h : slicesCloneXXXX1 N s1 = some r) :
    ACalls Tryz.prog 284 [.nn 3 (List.map LadderResult.enc s1)] [] fun e os => ∃ hd, e = .ret (.sl 0 hd) ∧ os = [(0, .arr hd 76 3 false (List.map LadderResult.enc r))] := by
  refine acalls_fr tt_ok dr_ok ⟨[], [], [], [], [], 0, []⟩ Tryz.func284 rfl Tryz.call284 rfl ?_
  unfold slicesCloneXXXX1 at h
  (conv=>whnf);intro hd3;obtain ⟨l2, hx2, h⟩ := obind h;(conv=>whnf);refine sr ?_;(conv=>whnf);refine Side.mk ⟨rfl, rfl, rfl⟩ (Need.mk (app_need hN hx2 (by decide)) (Eqv.mk (List.map LadderResult.enc l2) (app_map _ hx2) ?_));(conv=>whnf);intro hd4;(conv=>whnf);cases h;exact ⟨_, _, rfl, rfl⟩
theorem slicesCloneXXXXC {N : Nat} (hN : N ≤ 1073741824) {l : List LadderResult} {r : (List LadderResult)} (h : slicesCloneXXXX N l = some r) :
    ACalls Tryz.prog 284 [.d (.list 3 (List.map LadderResult.enc l))] [] fun e os => ∃ hd, e = .ret (.sl 0 hd) ∧ os = [(0, .arr hd 76 3 false (List.map LadderResult.enc r))] := by
  unfold slicesCloneXXXX at h
  refine ACalls.nils_or (fun e => ?_) (slicesCloneXXXX1C hN h)
  have e2 := List.map_eq_nil_iff.1 e
  subst e2
  have e3 : r = [] := by simpa [slicesCloneXXXX1, app] using h.symm
  subst e3
  exact ACalls.nil_own (slicesCloneXXXX0C hN (r := ()) rfl)
theorem deskWithXXXC {N : Nat} (hN : N ≤ 1073741824) {l1 : List LadderResult} {x1 : LadderResult} {r : (List LadderResult)} (h : deskWithXXX N l1 x1 = some r) :
    ACalls Tryz.prog 282 [.d (.list 3 (List.map LadderResult.enc l1)), .d (.agg [I x1.fMatch, .list 1 (List.map I x1.fGames), .bool x1.fProtested])] [] fun e os => e = .ret (.d (.list 3 (List.map LadderResult.enc r))) ∧ os = [] := by
  refine acalls_f (fresh := false) tt_ok dr_ok ⟨[3], [], [], [], [1], 0, []⟩ Tryz.func282 rfl Tryz.call282 rfl ?_
  unfold deskWithXXX at h
  obtain ⟨l4, hx3, h⟩ := obind h;(conv=>whnf);refine SeqG.mk Value (fun y => [(4, .sl 6 y)]) (fun y => [(6, .arr y 76 3 false (List.map LadderResult.enc l4))]) (fun _ => True) ?_ ?_
  ·obtain ⟨r2, hx4, hx3⟩ := obind hx3;obtain ⟨l5, hx5, hx3⟩ := obind hx3;(conv=>whnf);refine DrawG.mk (.take 0 (.take 2 (.alt 1 [2] (.alt 3 [] (.alt 4 [] (.take 5 .done) .nil) .nil) (.alt 3 [0] (.alt 1 [] (.alt 4 [] (.take 5 .done) .nil) .nil) .nil)))) (by kernel_rfl) ?_;(conv=>whnf);refine Both.mk ?_ ?_
   ·(conv=>whnf);refine CallG.fresh 6 (slicesCloneXXXXC hN hx4) ?_;intro hd15;(conv=>whnf);refine nl ?_;(conv=>whnf);refine Both.mk ?_ trivial;(conv=>whnf);intro hd16;(conv=>whnf);refine Both.mk ?_ trivial;(conv=>whnf);refine Side.mk ⟨rfl, rfl⟩ ?_;(conv=>whnf);refine Side.mk ⟨rfl, rfl, rfl⟩ (Need.mk (app_need hN hx5 (by decide)) (Eqv.mk (List.map LadderResult.enc l5) (app_map _ hx5) ?_));(conv=>whnf);intro hd17;cases hx3;(conv=>whnf);refine ⟨hd17, trivial, Sub.eq rfl ?_ ?_⟩
    ·(repeat ((conv=>whnf);refine nr ?_));exact trivial
    ·(conv=>whnf);refine no ?_;exact trivial
   ·(conv=>whnf);refine Both.mk ?_ trivial;(conv=>whnf);intro hd18;(conv=>whnf);refine nl ?_;(conv=>whnf);refine Both.mk ?_ trivial;(conv=>whnf);refine CallG.fresh 6 (slicesCloneXXXXC hN hx4) ?_;intro hd19;(conv=>whnf);refine Both.mk ?_ trivial;(conv=>whnf);refine Side.mk ⟨rfl, rfl⟩ ?_;(conv=>whnf);refine Side.mk ⟨rfl, rfl, rfl⟩ (Need.mk (app_need hN hx5 (by decide)) (Eqv.mk (List.map LadderResult.enc l5) (app_map _ hx5) ?_));(conv=>whnf);intro hd20;cases hx3;(conv=>whnf);refine ⟨hd20, trivial, Sub.eq rfl ?_ ?_⟩
    ·(repeat ((conv=>whnf);refine nr ?_));exact trivial
    ·(conv=>whnf);refine no ?_;exact trivial
  ·rintro hd11 _;(conv=>whnf);refine sr ?_;(conv=>whnf);cases h;exact rfl
def deskWorkDuelP (bo1 : Nat) : (DeskRefusal × DeskWork) ⊕ DeskWork → AE → List (Nat × Ob) → Prop
  | .inl r => fun ae os => ∃ y : Unit, True ∧ ae = .pan (.ifc 260 (.agg [I r.1.fE])) ∧ os = [kW bo1 r.2]
  | .inr r => fun ae os => ∃ y : Unit, True ∧ ae = .ret (.d (.tup [])) ∧ os = [kW bo1 r]
theorem deskWorkDuelC {N : Nat} (hN : N ≤ 1073741824) {n1 : List Int} {c1 : DeskWork} {bo1 : Nat} {r : (DeskRefusal × DeskWork) ⊕ DeskWork} (h : deskWorkDuel N n1 c1 = some r) :
    ACalls Tryz.prog 239 [.ptr 540003 bo1 0, .d (.list 1 (List.map I n1))] [kW bo1 c1] (deskWorkDuelP bo1 r) := by
  refine acalls_pred (fresh := false) tt_ok dr_ok ⟨[], [], [], [], [2], 550000, []⟩ Tryz.func239 rfl Tryz.call239 rfl ?_
  unfold deskWorkDuel at h
  obtain ⟨r2, hx3, h⟩ := obind h;(conv=>whnf);refine CallG.own (deskWorkCupC (bo1 := bo1) hN hx3) id [] _ (fun y => [kW bo1 c1]) (all2_le_refl _) (ai trivial) rfl (ai trivial) trivial (fun _ => AV.le_refl _) (fun _ => rfl) ?_;rintro _ _;obtain ⟨⟨ra2, rb2⟩, hx4, h⟩ := obind h;(conv=>whnf);refine CallG.pure _ (ladderNextC hN hx4) ?_;(conv=>whnf);refine LnA.mk _ (List.length_map _) ?_;obtain ⟨z2, hx6, h⟩ := obind h;rcases z2 with r4 | _
  ·(conv=>whnf);refine CallG.panic (deskAskC hN hx6) id [kW bo1 c1] (fun y => [kW bo1 c1]) (all2_le_refl _) trivial rfl trivial (ai trivial) (fun _ => rfl) ?_;rintro _ _
   (conv=>whnf);cases h;exact ⟨_, ⟨(), trivial, rfl, rfl⟩, inO_at (ren := id) (ai trivial)⟩
  ·(conv=>whnf)
   refine CallG.own (deskAskC hN hx6) id [kW bo1 c1] _ (fun y => [kW bo1 c1]) (all2_le_refl _) trivial rfl trivial (ai trivial) (fun _ => AV.le_refl _) (fun _ => rfl) ?_;rintro _ _
   (conv=>whnf);refine SeqG.mk Unit (fun y => [(0, .ptr 540003 bo1 0), (1, .d (.list 1 (List.map I n1))), (4, .d (.list 5 (List.map LadderMatch.enc ra2)))]) (fun y => [kW bo1 c1]) (fun y => deskWorkDuel_k1 N n1 c1 ra2 = some r) ?_ ?_
   ·obtain ⟨x5, hx14, h⟩ := obind h;obtain ⟨x6, hx15, h⟩ := obind h;(conv=>whnf);refine DrawG.mk (.take 0 (.take 1 (.take 2 (.take 3 (.take 4 (.take 5 (.take 6 (.take 7 (.take 8 (.spl 24 (.take 9 (.take 10 (.take 11 (.take 12 (.take 13 (.take 14 (.take 15 (.take 16 (.take 17 (.alt 18 [16, 15, 14, 13, 12, 11, 10, 9, 7, 6, 5, 4, 3, 2, 1, 0] .done .nil)))))))))))))))))))) (by kernel_rfl) ?_;(conv=>whnf);refine Side.mk rfl ⟨_, idx_0 hx14, idx_map _ hx14, ?_⟩;(conv=>whnf);refine Side.mk rfl ⟨_, idx_0 hx15, idx_map _ hx15, ?_⟩;(conv=>whnf);refine Br.mk (fun hc2 => ?_) (fun hc2 => ?_)
    ·replace h := ite_t hc2 h;(conv=>whnf);refine Both.mk ?_ trivial;obtain ⟨z5, hx16, h⟩ := obind h;rcases z5 with r8 | _
     ·(conv=>whnf);refine CallG.panic (deskAskC hN hx16) id [kW bo1 c1] (fun y => [kW bo1 c1]) (all2_le_refl _) trivial rfl trivial (ai trivial) (fun _ => rfl) ?_;rintro _ _
      (conv=>whnf);refine Side.mk (by kernel_rfl) ?_;(conv=>whnf);cases h;exact ⟨_, ⟨(), trivial, rfl, rfl⟩, inO_at (ren := id) (ai trivial)⟩
     ·(conv=>whnf)
      refine CallG.own (deskAskC hN hx16) id [kW bo1 c1] _ (fun y => [kW bo1 c1]) (all2_le_refl _) trivial rfl trivial (ai trivial) (fun _ => AV.le_refl _) (fun _ => rfl) ?_
      rintro _ _;(iterate 8 ((conv=>whnf);refine nr ?_));(iterate 3 ((conv=>whnf);refine nl ?_));(conv=>whnf);refine Side.mk rfl ⟨_, idx_0 hx15, idx_map _ hx15, ?_⟩;(iterate 3 ((conv=>whnf);refine nl ?_));(conv=>whnf);refine Side.mk rfl ⟨_, idx_0 hx14, idx_map _ hx14, ?_⟩;(iterate 2 ((conv=>whnf);refine nl ?_));(conv=>whnf);refine ⟨(), h, Sub.eq rfl ?_ ?_⟩
      ·(repeat ((conv=>whnf);refine nr ?_));exact trivial
      ·(conv=>whnf);refine no ?_;exact trivial
    ·replace h := ite_f hc2 h;(conv=>whnf);refine Side.mk rfl ⟨_, idx_0 hx14, idx_map _ hx14, ?_⟩;(conv=>whnf);refine Side.mk rfl ⟨_, idx_0 hx15, idx_map _ hx15, ?_⟩;(conv=>whnf);refine Both.mk ?_ trivial;obtain ⟨z6, hx17, h⟩ := obind h;rcases z6 with r9 | _
     ·(conv=>whnf);refine CallG.panic (deskAskC hN hx17) id [kW bo1 c1] (fun y => [kW bo1 c1]) (all2_le_refl _) trivial rfl trivial (ai trivial) (fun _ => rfl) ?_;rintro _ _
      (conv=>whnf);refine Side.mk (by kernel_rfl) ?_;(conv=>whnf);cases h;exact ⟨_, ⟨(), trivial, rfl, rfl⟩, inO_at (ren := id) (ai trivial)⟩
     ·(conv=>whnf)
      refine CallG.own (deskAskC hN hx17) id [kW bo1 c1] _ (fun y => [kW bo1 c1]) (all2_le_refl _) trivial rfl trivial (ai trivial) (fun _ => AV.le_refl _) (fun _ => rfl) ?_
      rintro _ _;(iterate 3 ((conv=>whnf);refine nl ?_));(conv=>whnf);refine Side.mk rfl ⟨_, idx_0 hx15, idx_map _ hx15, ?_⟩;(iterate 3 ((conv=>whnf);refine nl ?_));(conv=>whnf);refine Side.mk rfl ⟨_, idx_0 hx14, idx_map _ hx14, ?_⟩;(iterate 5 ((conv=>whnf);refine nl ?_));(conv=>whnf);refine Side.mk rfl ⟨_, idx_0 hx15, idx_map _ hx15, ?_⟩;(iterate 3 ((conv=>whnf);refine nl ?_));(conv=>whnf);refine Side.mk rfl ⟨_, idx_0 hx14, idx_map _ hx14, ?_⟩;(iterate 2 ((conv=>whnf);refine nl ?_));(conv=>whnf);refine ⟨(), h, Sub.eq rfl ?_ ?_⟩
      ·(repeat ((conv=>whnf);refine nr ?_));exact trivial
      ·(conv=>whnf);refine no ?_;exact trivial
   ·clear h;rintro _ h;unfold deskWorkDuel_k1 at h;obtain ⟨x3, hx11, h⟩ := obind h;obtain ⟨x4, hx12, h⟩ := obind h;(conv=>whnf);refine DrawG.mk (.take 0 (.take 1 (.take 2 (.take 3 (.take 4 (.take 5 (.take 6 (.take 7 (.take 8 (.take 9 (.take 10 (.take 11 (.take 12 (.alt 13 [11, 10, 9, 8, 7, 6, 5, 4, 3, 2, 1, 0] (.alt 14 [11, 10, 8, 7, 6, 5, 4, 3, 2, 1, 0] (.alt 15 [11, 10, 8, 7, 6, 4, 3, 2, 1, 0] (.take 16 (.take 17 (.take 18 (.alt 19 [17, 16] .done .nil)))) .nil) .nil) .nil)))))))))))))) (by kernel_rfl) ?_;(conv=>whnf);refine sr ?_;(conv=>whnf);refine Side.mk rfl ⟨_, idx_0 hx11, idx_map _ hx11, ?_⟩;(conv=>whnf);refine Side.mk rfl ⟨_, idx_0 hx12, idx_map _ hx12, ?_⟩;(conv=>whnf);refine Both.mk ?_ trivial;(conv=>whnf);intro hd2;(conv=>whnf);refine Side.mk rfl ⟨_, idx_0 hx12, idx_map _ hx12, ?_⟩;(iterate 3 ((conv=>whnf);refine nl ?_));(conv=>whnf)
    refine nl ?_;(conv=>whnf);refine Side.mk rfl ⟨_, idx_0 hx11, idx_map _ hx11, ?_⟩;(iterate 2 ((conv=>whnf);refine nl ?_));(conv=>whnf);refine sr ?_;(iterate 6 ((conv=>whnf);refine nl ?_));(conv=>whnf);refine Both.mk ?_ trivial;(conv=>whnf);refine sr ?_;(conv=>whnf);refine Side.mk rfl ⟨_, idx_0 hx12, idx_map _ hx12, ?_⟩;(iterate 3 ((conv=>whnf);refine nl ?_));(conv=>whnf);refine Side.mk rfl ⟨_, idx_0 hx11, idx_map _ hx11, ?_⟩;(iterate 2 ((conv=>whnf);refine nl ?_));(conv=>whnf);refine sr ?_;(iterate 6 ((conv=>whnf);refine nl ?_));(conv=>whnf);refine Both.mk ?_ trivial
    obtain ⟨r7, hx13, h⟩ := obind h;(conv=>whnf);refine CallG.pure _ (deskWithXXXC hN hx13) ?_;(conv=>whnf);refine Side.mk rfl ⟨_, idx_0 hx12, idx_map _ hx12, ?_⟩;(iterate 3 ((conv=>whnf);refine nl ?_));(conv=>whnf);refine Side.mk rfl ⟨_, idx_0 hx11, idx_map _ hx11, ?_⟩;(iterate 7 ((conv=>whnf);refine nl ?_));(conv=>whnf);refine Both.mk ?_ trivial;(conv=>whnf);refine sr ?_;(iterate 2 ((conv=>whnf);refine nl ?_));(conv=>whnf);cases h;exact ⟨_, ⟨(), trivial, rfl, rfl⟩, inO_at (ren := id) (ai trivial)⟩
theorem deskWorkDoubt1C {N : Nat} (hN : N ≤ 1073741824) {r1 : LadderResult} {a1 : List Int} {r : Bool} (h : deskWorkDoubt1 N r1 a1 = some r) :
    ACalls Tryz.prog 283 [.d (.agg [I r1.fMatch, .list 1 (List.map I r1.fGames), .bool r1.fProtested]), .d (.ref (.agg [.list 1 (List.map I a1)]))] [] fun e os => e = .ret (.d (.bool r)) ∧ os = [] := by
  refine acalls_f (fresh := false) tt_ok dr_ok ⟨[2], [], [], [], [], 0, []⟩ Tryz.func283 rfl Tryz.call283 rfl ?_
  unfold deskWorkDoubt1 at h
  obtain ⟨x2, hx2, h⟩ := obind h;(conv=>whnf);refine DrawG.mk (.take 0 (.take 1 (.take 2 (.take 3 (.take 4 (.take 5 (.take 6 .done))))))) (by kernel_rfl) ?_;(conv=>whnf);refine Side.mk rfl ⟨_, idx_0 hx2, idx_map _ hx2, ?_⟩;(conv=>whnf);cases h;exact rfl
theorem slicesIndexFuncXXXXC {N : Nat} (hN : N ≤ 1073741824) {s1 : List LadderResult} {f1 : List Int} {r : Int} (h : slicesIndexFuncXXXX N s1 f1 = some r) :
    ACalls Tryz.prog 221 [.d (.list 3 (List.map LadderResult.enc s1)), .d (.fn (.func 283) [] [.ref (.agg [.list 1 (List.map I f1)])])] [] fun e os => e = .ret (.d (I r)) ∧ os = [] := by
  refine acalls_f (fresh := false) tt_ok dr_ok ⟨[], [], [], [], [1001], 0, []⟩ Tryz.func221 rfl Tryz.call221 rfl ?_
  unfold slicesIndexFuncXXXX at h
  (conv=>whnf);refine SeqG.mk Unit (fun y => []) (fun y => []) (fun y => slicesIndexFuncXXXX_k1 N = some r) ?_ ?_
  ·(conv=>whnf);refine LnA.mk _ (List.length_map _) ?_;(conv=>whnf);refine LoopG.mk (Nat × (Int × Int)) (fun y => [(0, .d (.list 3 (List.map LadderResult.enc s1))), (1, .d (.fn (.func 283) [] [.ref (.agg [.list 1 (List.map I f1)])])), (7, .d (I y.2.1)), (8, .d (I y.2.2))]) (fun y => []) (fun y => loopN (fun rr x => slicesIndexFuncXXXX_b2 N s1 f1 rr x.1 x.2) y.1 y.2 = some r) (fun y => y.1) (N, ((s1.length : Int), 0)) h (Sub.eq rfl ?_ ?_) ?_
   ·(repeat ((conv=>whnf);refine nr ?_));exact trivial
   ·exact trivial
   ·rintro ⟨n2, ⟨v17, v18⟩⟩ hl2;obtain ⟨n2, rfl, hl2⟩ := loopN_some hl2;replace hl2 : slicesIndexFuncXXXX_b2 N s1 f1 (loopN (fun rr x => slicesIndexFuncXXXX_b2 N s1 f1 rr x.1 x.2) n2) v17 v18 = some r := hl2;rw [slicesIndexFuncXXXX_b2] at hl2;(conv=>whnf);refine Br.mk (fun hc22 => ?_) (fun hc22 => ?_)
    ·replace hl2 := ite_t hc22 hl2;obtain ⟨x24, hx47, hl2⟩ := obind hl2;(conv=>whnf);refine Side.mk rfl ⟨_, idx_0 hx47, idx_map _ hx47, ?_⟩;obtain ⟨r24, hx48, hl2⟩ := obind hl2;(conv=>whnf);refine CallG.pure _ (deskWorkDoubt1C hN hx48) ?_;(conv=>whnf);refine Br.mk (fun hc24 => ?_) (fun hc24 => ?_)
     ·replace hl2 := ite_t hc24 hl2;(conv=>whnf);cases hl2;exact rfl
     ·replace hl2 := ite_f hc24 hl2;(conv=>whnf);refine ⟨(n2, (v17, w64 (v18 + 1))), hl2, Sub.eq rfl ?_ ?_, Nat.lt_succ_self _⟩
      ·(repeat ((conv=>whnf);refine nr ?_));exact trivial
      ·exact trivial
    ·replace hl2 := ite_f hc22 hl2;(conv=>whnf);refine ⟨(), hl2, Sub.eq rfl ?_ ?_⟩
     ·(repeat ((conv=>whnf);refine nr ?_));exact trivial
     ·exact trivial
  ·clear h;rintro _ h;unfold slicesIndexFuncXXXX_k1 at h;(conv=>whnf);cases h;exact rfl
end Go.Proofs.YtiaoloodgildeaaGreatDoor
