/-
  Walks: what the typed functions compute, the program’s functions return.
-/
import Derived.Test.YtiaoloodgildeaaGreatDoorWe
import Derived.Test.YtiaoloodgildeaaGreatDoorVa
import Derived.Test.YtiaoloodgildeaaGreatDoorVb
import Derived.Test.YtiaoloodgildeaaGreatDoorVc
namespace Go.Proofs.YtiaoloodgildeaaGreatDoor
open Go Go.Abs Go.Kp
set_option maxRecDepth 100000
set_option maxHeartbeats 8000000
set_option linter.all false
def deskWorkDoubtP (bo1 : Nat) : (DeskRefusal × DeskWork) ⊕ DeskWork → AE → List (Nat × Ob) → Prop
  | .inl r => fun ae os => ∃ y : Unit, True ∧ ae = .pan (.ifc 260 (.agg [I r.1.fE])) ∧ os = [kW bo1 r.2]
  | .inr r => fun ae os => ∃ y : Unit, True ∧ ae = .ret (.d (.tup [])) ∧ os = [kW bo1 r]
theorem deskWorkDoubtC {N : Nat} (hN : N ≤ 1073741824) {n1 : List Int} {c1 : DeskWork} {bo1 : Nat} {r : (DeskRefusal × DeskWork) ⊕ DeskWork} (h : deskWorkDoubt N n1 c1 = some r) :
    ACalls Tryz.prog 240 [.ptr 540003 bo1 0, .d (.list 1 (List.map I n1))] [kW bo1 c1] (deskWorkDoubtP bo1 r) := by
  refine acalls_pred (fresh := false) tt_ok dr_ok ⟨[3], [], [100540003], [], [], 550000, []⟩ Tryz.func240 rfl Tryz.call240 rfl ?_
  unfold deskWorkDoubt at h
  (conv=>whnf);refine sr ?_;obtain ⟨r2, hx2, h⟩ := obind h;(conv=>whnf);refine CallG.pure _ (slicesIndexFuncXXXXC hN hx2) ?_;obtain ⟨z2, hx4, h⟩ := obind h;rcases z2 with r4 | _
  ·(conv=>whnf);refine CallG.panic (deskAskC hN hx4) id [kW bo1 c1] (fun y => [kW bo1 c1]) (all2_le_refl _) trivial rfl trivial (ai trivial) (fun _ => rfl) ?_;rintro _ _
   (conv=>whnf);cases h;exact ⟨_, ⟨(), trivial, rfl, rfl⟩, inO_at (ren := id) (ai trivial)⟩
  ·(conv=>whnf)
   refine CallG.own (deskAskC hN hx4) id [kW bo1 c1] _ (fun y => [kW bo1 c1]) (all2_le_refl _) trivial rfl trivial (ai trivial) (fun _ => AV.le_refl _) (fun _ => rfl) ?_;rintro _ _
   (conv=>whnf);refine sr ?_;obtain ⟨x2, hx7, h⟩ := obind h;(conv=>whnf);refine Side.mk rfl ⟨_, idx_0 hx7, idx_map _ hx7, ?_⟩;obtain ⟨z4, hx8, h⟩ := obind h;rcases z4 with r6 | _
   ·(conv=>whnf);refine CallG.panic (deskAskC hN hx8) id [kW bo1 c1] (fun y => [kW bo1 c1]) (all2_le_refl _) trivial rfl trivial (ai trivial) (fun _ => rfl) ?_;rintro _ _
    (conv=>whnf);cases h;exact ⟨_, ⟨(), trivial, rfl, rfl⟩, inO_at (ren := id) (ai trivial)⟩
   ·(conv=>whnf)
    refine CallG.own (deskAskC hN hx8) id [kW bo1 c1] _ (fun y => [kW bo1 c1]) (all2_le_refl _) trivial rfl trivial (ai trivial) (fun _ => AV.le_refl _) (fun _ => rfl) ?_;rintro _ _
    (conv=>whnf);refine sr ?_;obtain ⟨r8, hx10, h⟩ := obind h;(conv=>whnf);refine CallG.fresh 550032 (slicesCloneXXXXC hN hx10) ?_;intro hd2;(iterate 2 ((conv=>whnf);refine sr ?_));obtain ⟨x3, hx11, h⟩ := obind h;(conv=>whnf);refine Side.mk ⟨rfl, rfl⟩ (Need.mk (idx_need _ hx11) ?_);(conv=>whnf);refine Side.mk ⟨rfl, rfl⟩ ⟨_, Int.natCast_nonneg _, idx_el _ hx11, ?_⟩;(conv=>whnf);refine Eqv.mk (List.map LadderResult.enc (List.set r8 (Int.toNat r2) (LadderResult.mk x3.fMatch x3.fGames true))) (set_map _ _ _ _ rfl) ?_;(iterate 2 ((conv=>whnf);refine sr ?_));(conv=>whnf);cases h;exact ⟨_, ⟨(), trivial, rfl, rfl⟩, inO_at (ren := id) (ai trivial)⟩
def deskWorkLineP (bo1 : Nat) : (DeskRefusal × DeskWork) ⊕ DeskWork → AE → List (Nat × Ob) → Prop
  | .inl r => fun ae os => ∃ y : Unit, True ∧ ae = .pan (.ifc 260 (.agg [I r.1.fE])) ∧ os = [kW bo1 r.2]
  | .inr r => fun ae os => ∃ y : Unit, True ∧ ae = .ret (.d (.tup [])) ∧ os = [kW bo1 r]
theorem deskWorkLineC {N : Nat} (hN : N ≤ 1073741824) {s1 : List UInt8} {c1 : DeskWork} {bo1 : Nat} {r : (DeskRefusal × DeskWork) ⊕ DeskWork} (h : deskWorkLine N s1 c1 = some r) :
    ACalls Tryz.prog 151 [.ptr 540003 bo1 0, .d (.str s1)] [kW bo1 c1] (deskWorkLineP bo1 r) := by
  refine acalls_pred (fresh := false) tt_ok dr_ok ⟨[], [], [], [], [1, 2, 1004], 550000, []⟩ Tryz.func151 rfl Tryz.call151 rfl ?_
  unfold deskWorkLine at h
  obtain ⟨r2, hx2, h⟩ := obind h;(conv=>whnf);refine CallG.pure _ (splIC hN hx2) ?_;obtain ⟨⟨is3, c3⟩, hx6, h⟩ := obind h;(conv=>whnf);refine SeqG.mk Nat (fun y => [(0, .ptr 540003 bo1 0), (4, .d (.list 1 (List.map D.str r2))), (5, .ptr 550005 y 0), (6, .d (.bool is3))]) (fun y => [kW bo1 c1, (550005, .cells y [.d (I c3.fMany), .d (fnv300 c3.fDo)])]) (fun _ => True) ?_ ?_
  ·obtain ⟨x2, hx7, hx6⟩ := obind hx6;obtain ⟨r4, hx8, hx6⟩ := obind hx6;obtain ⟨⟨v2, is4⟩, hx9, hx6⟩ := obind hx6;(conv=>whnf);refine DrawG.mk (.take 1 (.take 2 (.take 3 (.alt 0 [3, 2, 1] (.alt 4 [2, 1] (.take 5 (.take 6 (.take 7 (.alt 8 [7, 6, 5, 2, 1] (.alt 9 [7] (.take 10 .done) .nil) .nil)))) (.alt 8 [3, 2, 1] (.alt 4 [2, 1] (.take 5 (.take 6 (.take 7 (.alt 9 [7] (.take 10 .done) .nil)))) .nil) .nil)) (.alt 8 [3, 2, 1] (.alt 0 [3, 2, 1] (.alt 4 [2, 1] (.take 5 (.take 6 (.take 7 (.alt 9 [7] (.take 10 .done) .nil)))) .nil) .nil) .nil))))) (by kernel_rfl) ?_;(conv=>whnf);refine Side.mk rfl ⟨_, idx_0 hx7, idx_map _ hx7, ?_⟩;(conv=>whnf);refine Both.mk ?_ ?_
   ·(conv=>whnf)
    refine CallG.own (deskActsC hN hx8) id [kW bo1 c1] _ (fun y => [(945001, .map y (List.map (fun p => (.str p.1, .agg [I p.2.fMany, fnv300 p.2.fDo])) r4)), kW bo1 c1]) (all2_le_refl _) trivial rfl trivial (ai trivial) (fun _ => AV.le_refl _) (fun _ => rfl) ?_
    rintro b10 _;(conv=>whnf);refine nl ?_;(conv=>whnf);refine Side.mk rfl ⟨_, idx_0 hx7, idx_map _ hx7, ?_⟩;(iterate 2 ((conv=>whnf);refine nl ?_));(conv=>whnf);refine Both.mk ?_ ?_
    ·(conv=>whnf);refine Side.mk rfl (Need.mk rfl (Need.mk (fit_all (m := r4) (fun x : List UInt8 => .str x) (fun x : DeskAct => .agg [I x.fMany, fnv300 x.fDo]) fun _ => rfl) (LkG.mk (.agg [I v2.fMany, fnv300 v2.fDo]) is4 (mgt_v (eK := (fun x : List UInt8 => .str x)) (eV := (fun x : DeskAct => .agg [I x.fMany, fnv300 x.fDo])) eqc_str hx9) (mgt_b (eK := (fun x : List UInt8 => .str x)) (eV := (fun x : DeskAct => .agg [I x.fMany, fnv300 x.fDo])) eqc_str hx9) ?_)));(conv=>whnf);refine Side.mk rfl ⟨_, idx_0 hx7, idx_map _ hx7, ?_⟩;(iterate 2 ((conv=>whnf);refine nl ?_));(conv=>whnf);refine Both.mk ?_ trivial;(conv=>whnf);intro b11;(iterate 3 ((conv=>whnf);refine nl ?_));(conv=>whnf);refine Side.mk rfl ⟨_, idx_0 hx7, idx_map _ hx7, ?_⟩;(iterate 2 ((conv=>whnf);refine nl ?_));(conv=>whnf);refine Both.mk ?_ trivial;(conv=>whnf)
     refine sr ?_;(conv=>whnf);refine nl ?_;cases hx6;(conv=>whnf);refine ⟨b11, trivial, Sub.eq rfl ?_ ?_⟩
     ·(repeat ((conv=>whnf);refine nr ?_));exact trivial
     ·(iterate 2 ((conv=>whnf);refine no ?_));exact trivial
    ·(conv=>whnf);refine Both.mk ?_ trivial;(conv=>whnf);intro b12;(conv=>whnf);refine nl ?_;(conv=>whnf);refine Side.mk rfl ⟨_, idx_0 hx7, idx_map _ hx7, ?_⟩;(iterate 2 ((conv=>whnf);refine nl ?_));(conv=>whnf);refine Both.mk ?_ trivial;(conv=>whnf);refine Side.mk rfl (Need.mk rfl (Need.mk (fit_all (m := r4) (fun x : List UInt8 => .str x) (fun x : DeskAct => .agg [I x.fMany, fnv300 x.fDo]) fun _ => rfl) (LkG.mk (.agg [I v2.fMany, fnv300 v2.fDo]) is4 (mgt_v (eK := (fun x : List UInt8 => .str x)) (eV := (fun x : DeskAct => .agg [I x.fMany, fnv300 x.fDo])) eqc_str hx9) (mgt_b (eK := (fun x : List UInt8 => .str x)) (eV := (fun x : DeskAct => .agg [I x.fMany, fnv300 x.fDo])) eqc_str hx9) ?_)));(conv=>whnf);refine Side.mk rfl ⟨_, idx_0 hx7, idx_map _ hx7, ?_⟩;(iterate 2 ((conv=>whnf);refine nl ?_));(conv=>whnf);refine Both.mk ?_ trivial;(conv=>whnf);refine sr ?_
     (conv=>whnf);refine nl ?_;cases hx6;(conv=>whnf);refine ⟨b12, trivial, Sub.eq rfl ?_ ?_⟩
     ·(repeat ((conv=>whnf);refine nr ?_));exact trivial
     ·(iterate 2 ((conv=>whnf);refine no ?_));exact trivial
   ·(conv=>whnf);refine Both.mk ?_ trivial;(conv=>whnf);intro b13;(conv=>whnf);refine nl ?_;(conv=>whnf);refine Side.mk rfl ⟨_, idx_0 hx7, idx_map _ hx7, ?_⟩;(iterate 2 ((conv=>whnf);refine nl ?_));(conv=>whnf);refine Both.mk ?_ trivial;(conv=>whnf)
    refine CallG.own (deskActsC hN hx8) id [kW bo1 c1, (550005, .cells b13 [.d (I 0), .d .nilfn])] _ (fun y => [(945001, .map y (List.map (fun p => (.str p.1, .agg [I p.2.fMany, fnv300 p.2.fDo])) r4)), kW bo1 c1, (550005, .cells b13 [.d (I 0), .d .nilfn])]) (all2_le_refl _) trivial rfl trivial (ai (ai trivial)) (fun _ => AV.le_refl _) (fun _ => rfl) ?_
    rintro b14 _;(conv=>whnf);refine nl ?_;(conv=>whnf);refine Side.mk rfl ⟨_, idx_0 hx7, idx_map _ hx7, ?_⟩;(iterate 2 ((conv=>whnf);refine nl ?_));(conv=>whnf);refine Both.mk ?_ trivial;(conv=>whnf);refine Side.mk rfl (Need.mk rfl (Need.mk (fit_all (m := r4) (fun x : List UInt8 => .str x) (fun x : DeskAct => .agg [I x.fMany, fnv300 x.fDo]) fun _ => rfl) (LkG.mk (.agg [I v2.fMany, fnv300 v2.fDo]) is4 (mgt_v (eK := (fun x : List UInt8 => .str x)) (eV := (fun x : DeskAct => .agg [I x.fMany, fnv300 x.fDo])) eqc_str hx9) (mgt_b (eK := (fun x : List UInt8 => .str x)) (eV := (fun x : DeskAct => .agg [I x.fMany, fnv300 x.fDo])) eqc_str hx9) ?_)));(conv=>whnf);refine Side.mk rfl ⟨_, idx_0 hx7, idx_map _ hx7, ?_⟩;(iterate 2 ((conv=>whnf);refine nl ?_));(conv=>whnf);refine Both.mk ?_ trivial;(conv=>whnf);refine sr ?_;(conv=>whnf);refine nl ?_;cases hx6;(conv=>whnf)
    refine ⟨b13, trivial, Sub.eq rfl ?_ ?_⟩
    ·(repeat ((conv=>whnf);refine nr ?_));exact trivial
    ·(iterate 2 ((conv=>whnf);refine no ?_));exact trivial
  ·rintro bb2 _;(conv=>whnf);refine SeqG.mk Unit (fun y => [(0, .ptr 540003 bo1 0), (4, .d (.list 1 (List.map D.str r2))), (5, .ptr 550005 bb2 0)]) (fun y => [kW bo1 c1, (550005, .cells bb2 [.d (I c3.fMany), .d (fnv300 c3.fDo)])]) (fun y => deskWorkLine_k3 N c1 r2 c3 = some r) ?_ ?_
   ·(conv=>whnf);refine Br.mk (fun hc23 => ?_) (fun hc23 => ?_)
    ·replace h := ite_t hc23 h;(conv=>whnf);refine LnA.mk _ (List.length_map _) ?_;(conv=>whnf);refine sr ?_;obtain ⟨z24, hx73, h⟩ := obind h;rcases z24 with r40 | _
     ·(conv=>whnf)
      refine CallG.panic (deskAskC hN hx73) id [kW bo1 c1, (550005, .cells bb2 [.d (I c3.fMany), .d (fnv300 c3.fDo)])] (fun y => [kW bo1 c1, (550005, .cells bb2 [.d (I c3.fMany), .d (fnv300 c3.fDo)])]) (all2_le_refl _) trivial rfl trivial (ai (ai trivial)) (fun _ => rfl) ?_
      rintro _ _;(conv=>whnf);cases h;exact ⟨_, ⟨(), trivial, rfl, rfl⟩, inO_at (ren := id) (ai trivial)⟩
     ·(conv=>whnf)
      refine CallG.own (deskAskC hN hx73) id [kW bo1 c1, (550005, .cells bb2 [.d (I c3.fMany), .d (fnv300 c3.fDo)])] _ (fun y => [kW bo1 c1, (550005, .cells bb2 [.d (I c3.fMany), .d (fnv300 c3.fDo)])]) (all2_le_refl _) trivial rfl trivial (ai (ai trivial)) (fun _ => AV.le_refl _) (fun _ => rfl) ?_
      rintro _ _;(conv=>whnf);refine ⟨(), h, Sub.eq rfl ?_ ?_⟩
      ·(repeat ((conv=>whnf);refine nr ?_));exact trivial
      ·(iterate 2 ((conv=>whnf);refine no ?_));exact trivial
    ·replace h := ite_f hc23 h;obtain ⟨z25, hx74, h⟩ := obind h;rcases z25 with r41 | _
     ·(conv=>whnf)
      refine CallG.panic (deskAskC hN hx74) id [kW bo1 c1, (550005, .cells bb2 [.d (I c3.fMany), .d (fnv300 c3.fDo)])] (fun y => [kW bo1 c1, (550005, .cells bb2 [.d (I c3.fMany), .d (fnv300 c3.fDo)])]) (all2_le_refl _) trivial rfl trivial (ai (ai trivial)) (fun _ => rfl) ?_
      rintro _ _;(conv=>whnf);cases h;exact ⟨_, ⟨(), trivial, rfl, rfl⟩, inO_at (ren := id) (ai trivial)⟩
     ·(conv=>whnf)
      refine CallG.own (deskAskC hN hx74) id [kW bo1 c1, (550005, .cells bb2 [.d (I c3.fMany), .d (fnv300 c3.fDo)])] _ (fun y => [kW bo1 c1, (550005, .cells bb2 [.d (I c3.fMany), .d (fnv300 c3.fDo)])]) (all2_le_refl _) trivial rfl trivial (ai (ai trivial)) (fun _ => AV.le_refl _) (fun _ => rfl) ?_
      rintro _ _;(conv=>whnf);refine ⟨(), h, Sub.eq rfl ?_ ?_⟩
      ·(repeat ((conv=>whnf);refine nr ?_));exact trivial
      ·(iterate 2 ((conv=>whnf);refine no ?_));exact trivial
   ·clear h;rintro _ h;unfold deskWorkLine_k3 at h;(conv=>whnf);refine SeqG.mk ((List Int) × Value) (fun y => [(0, .ptr 540003 bo1 0), (5, .ptr 550005 bb2 0), (7, .sl 550041 y.2)]) (fun y => [kW bo1 c1, (550005, .cells bb2 [.d (I c3.fMany), .d (fnv300 c3.fDo)]), (550041, .arr y.2 3 1 false (List.map I y.1))]) (fun y => deskWorkLine_k1 N c1 c3 y.1 = some r) ?_ ?_
    ·obtain ⟨l15, hx48, h⟩ := obind h;(conv=>whnf);refine Need.mk (slc_needL _ hx48) (Eqv.mk (List.map D.str l15) (slc_mapL _ hx48) ?_);(conv=>whnf);refine LnA.mk _ (List.length_map _) ?_;(conv=>whnf)
     refine LoopG.mk (Nat × (Int × Int × (List Int)) × Value) (fun y => [(0, .ptr 540003 bo1 0), (5, .ptr 550005 bb2 0), (7, .sl 550041 y.2.2), (31, .d (.list 1 (List.map D.str l15))), (32, .d (I y.2.1.1)), (33, .d (I y.2.1.2.1))]) (fun y => [kW bo1 c1, (550005, .cells bb2 [.d (I c3.fMany), .d (fnv300 c3.fDo)]), (550041, .arr y.2.2 3 1 false (List.map I y.2.1.2.2))]) (fun y => loopN (fun rr x => deskWorkLine_b2 N c1 c3 l15 rr x.1 x.2.1 x.2.2) y.1 y.2.1 = some r) (fun y => y.1) (N, ((l15.length : Int), 0, []), (.slice none 0 0)) h (Sub.eq rfl ?_ ?_) ?_
     ·(repeat ((conv=>whnf);refine nr ?_));exact trivial
     ·(iterate 2 ((conv=>whnf);refine no ?_));(conv=>whnf);refine Need.mk (OLe.nil _ _ _ _) ?_;exact trivial
     ·rintro ⟨n2, ⟨v19, v20, l23⟩, hd29⟩ hl2;obtain ⟨n2, rfl, hl2⟩ := loopN_some hl2;replace hl2 : deskWorkLine_b2 N c1 c3 l15 (loopN (fun rr x => deskWorkLine_b2 N c1 c3 l15 rr x.1 x.2.1 x.2.2) n2) v19 v20 l23 = some r := hl2;rw [deskWorkLine_b2] at hl2;(conv=>whnf);refine Br.mk (fun hc22 => ?_) (fun hc22 => ?_)
      ·replace hl2 := ite_t hc22 hl2;obtain ⟨x26, hx70, hl2⟩ := obind hl2;(conv=>whnf);refine Side.mk rfl ⟨_, idx_0 hx70, idx_map _ hx70, ?_⟩;obtain ⟨z23, hx71, hl2⟩ := obind hl2;rcases z23 with r38 | r39
       ·(conv=>whnf)
        refine CallG.own (deskNumberC hN hx71) id [kW bo1 c1, (550005, .cells bb2 [.d (I c3.fMany), .d (fnv300 c3.fDo)]), (550041, .arr hd29 3 1 false (List.map I l23))] _ (fun y => [kW bo1 c1, (550005, .cells bb2 [.d (I c3.fMany), .d (fnv300 c3.fDo)]), (550041, .arr hd29 3 1 false (List.map I l23))]) (all2_le_refl _) trivial rfl trivial (ai (ai (ai trivial))) (fun _ => AV.le_refl _) (fun _ => rfl) ?_
        rintro _ _;(conv=>whnf);intro hd32;obtain ⟨l25, hx72, hl2⟩ := obind hl2;(conv=>whnf);refine Side.mk ⟨rfl, rfl⟩ ?_;(conv=>whnf);refine Side.mk ⟨rfl, rfl, rfl⟩ (Need.mk (app_need hN hx72 (by decide)) (Eqv.mk (List.map I l25) (app_map _ hx72) ?_));(conv=>whnf);intro hd33;(conv=>whnf);refine ⟨(n2, (v19, w64 (v20 + 1), l25), hd33), hl2, Sub.eq rfl ?_ ?_, Nat.lt_succ_self _⟩
        ·(repeat ((conv=>whnf);refine nr ?_));exact trivial
        ·(iterate 3 ((conv=>whnf);refine no ?_));exact trivial
       ·(conv=>whnf)
        refine CallG.panic (deskNumberC hN hx71) id [kW bo1 c1, (550005, .cells bb2 [.d (I c3.fMany), .d (fnv300 c3.fDo)]), (550041, .arr hd29 3 1 false (List.map I l23))] (fun y => [kW bo1 c1, (550005, .cells bb2 [.d (I c3.fMany), .d (fnv300 c3.fDo)]), (550041, .arr hd29 3 1 false (List.map I l23))]) (all2_le_refl _) trivial rfl trivial (ai (ai (ai trivial))) (fun _ => rfl) ?_
        rintro _ _;(conv=>whnf);cases hl2;exact ⟨_, ⟨(), trivial, rfl, rfl⟩, inO_at (ren := id) (ai trivial)⟩
      ·replace hl2 := ite_f hc22 hl2;(conv=>whnf);refine ⟨(l23, hd29), hl2, Sub.eq rfl ?_ ?_⟩
       ·(repeat ((conv=>whnf);refine nr ?_));exact trivial
       ·(iterate 3 ((conv=>whnf);refine no ?_));exact trivial
    ·clear h;rintro ⟨l13, hd17⟩ h;unfold deskWorkLine_k1 at h;(conv=>whnf);refine sr ?_;rcases bcases (decide (c3.fDo = 0)) with hc8 | hc8
     ·replace h := ite_t hc8 h;rw [of_decide_eq_true hc8];obtain ⟨z9, hx38, h⟩ := obind h;rcases z9 with ⟨ra1, rb1⟩ | r19
      ·(conv=>whnf);refine sr ?_;(conv=>whnf);refine CallG.panic (deskWorkBowlerC (bo1 := bo1) hN hx38) id [(550005, .cells bb2 [.d (I c3.fMany), .d (fnv300 0)]), (550041, .arr hd17 3 1 true (List.map I l13))] (fun y => [kW bo1 rb1, (550005, .cells bb2 [.d (I c3.fMany), .d (fnv300 0)]), (550041, .arr hd17 3 1 true (List.map I l13))]) (all2_le_refl _) (ai trivial) rfl (ai trivial) (ai (ai trivial)) (fun _ => rfl) ?_;rintro _ _;(conv=>whnf);cases h;exact ⟨_, ⟨(), trivial, rfl, rfl⟩, inO_at (ren := id) (ai trivial)⟩
      ·(conv=>whnf);refine sr ?_;(conv=>whnf);refine CallG.own (deskWorkBowlerC (bo1 := bo1) hN hx38) id [(550005, .cells bb2 [.d (I c3.fMany), .d (fnv300 0)]), (550041, .arr hd17 3 1 true (List.map I l13))] _ (fun y => [kW bo1 r19, (550005, .cells bb2 [.d (I c3.fMany), .d (fnv300 0)]), (550041, .arr hd17 3 1 true (List.map I l13))]) (all2_le_refl _) (ai trivial) rfl (ai trivial) (ai (ai trivial)) (fun _ => AV.le_refl _) (fun _ => rfl) ?_;rintro _ _;(conv=>whnf);cases h
       exact ⟨_, ⟨(), trivial, rfl, rfl⟩, inO_at (ren := id) (ai trivial)⟩
     ·replace h := ite_f hc8 h;rcases bcases (decide (c3.fDo = 1)) with hc9 | hc9
      ·replace h := ite_t hc9 h;rw [of_decide_eq_true hc9];obtain ⟨z10, hx39, h⟩ := obind h;rcases z10 with ⟨ra2, rb2⟩ | r20
       ·(conv=>whnf);refine sr ?_;(conv=>whnf);refine CallG.panic (deskWorkOpenC (bo1 := bo1) hN hx39) id [(550005, .cells bb2 [.d (I c3.fMany), .d (fnv300 1)]), (550041, .arr hd17 3 1 true (List.map I l13))] (fun y => [kW bo1 rb2, (550005, .cells bb2 [.d (I c3.fMany), .d (fnv300 1)]), (550041, .arr hd17 3 1 true (List.map I l13))]) (all2_le_refl _) (ai trivial) rfl (ai trivial) (ai (ai trivial)) (fun _ => rfl) ?_;rintro _ _;(conv=>whnf);cases h;exact ⟨_, ⟨(), trivial, rfl, rfl⟩, inO_at (ren := id) (ai trivial)⟩
       ·(conv=>whnf);refine sr ?_;(conv=>whnf);refine CallG.own (deskWorkOpenC (bo1 := bo1) hN hx39) id [(550005, .cells bb2 [.d (I c3.fMany), .d (fnv300 1)]), (550041, .arr hd17 3 1 true (List.map I l13))] _ (fun y => [kW bo1 r20, (550005, .cells bb2 [.d (I c3.fMany), .d (fnv300 1)]), (550041, .arr hd17 3 1 true (List.map I l13))]) (all2_le_refl _) (ai trivial) rfl (ai trivial) (ai (ai trivial)) (fun _ => AV.le_refl _) (fun _ => rfl) ?_;rintro _ _;(conv=>whnf);cases h
        exact ⟨_, ⟨(), trivial, rfl, rfl⟩, inO_at (ren := id) (ai trivial)⟩
      ·replace h := ite_f hc9 h;rcases bcases (decide (c3.fDo = 2)) with hc10 | hc10
       ·replace h := ite_t hc10 h;rw [of_decide_eq_true hc10];obtain ⟨z11, hx40, h⟩ := obind h;rcases z11 with ⟨ra3, rb3⟩ | r21
        ·(conv=>whnf);refine sr ?_;(conv=>whnf);refine CallG.panic (deskWorkBallC (bo1 := bo1) hN hx40) id [(550005, .cells bb2 [.d (I c3.fMany), .d (fnv300 2)]), (550041, .arr hd17 3 1 true (List.map I l13))] (fun y => [kW bo1 rb3, (550005, .cells bb2 [.d (I c3.fMany), .d (fnv300 2)]), (550041, .arr hd17 3 1 true (List.map I l13))]) (all2_le_refl _) (ai trivial) rfl (ai trivial) (ai (ai trivial)) (fun _ => rfl) ?_;rintro _ _;(conv=>whnf);cases h;exact ⟨_, ⟨(), trivial, rfl, rfl⟩, inO_at (ren := id) (ai trivial)⟩
        ·(conv=>whnf);refine sr ?_;(conv=>whnf);refine CallG.own (deskWorkBallC (bo1 := bo1) hN hx40) id [(550005, .cells bb2 [.d (I c3.fMany), .d (fnv300 2)]), (550041, .arr hd17 3 1 true (List.map I l13))] _ (fun y => [kW bo1 r21, (550005, .cells bb2 [.d (I c3.fMany), .d (fnv300 2)]), (550041, .arr hd17 3 1 true (List.map I l13))]) (all2_le_refl _) (ai trivial) rfl (ai trivial) (ai (ai trivial)) (fun _ => AV.le_refl _) (fun _ => rfl) ?_;rintro _ _;(conv=>whnf);cases h
         exact ⟨_, ⟨(), trivial, rfl, rfl⟩, inO_at (ren := id) (ai trivial)⟩
       ·replace h := ite_f hc10 h;rcases bcases (decide (c3.fDo = 3)) with hc11 | hc11
        ·replace h := ite_t hc11 h;rw [of_decide_eq_true hc11];obtain ⟨z12, hx41, h⟩ := obind h;rcases z12 with ⟨ra4, rb4⟩ | r22
         ·(conv=>whnf);refine sr ?_;(conv=>whnf);refine CallG.panic (deskWorkBackC (bo1 := bo1) hN hx41) id [(550005, .cells bb2 [.d (I c3.fMany), .d (fnv300 3)]), (550041, .arr hd17 3 1 true (List.map I l13))] (fun y => [kW bo1 rb4, (550005, .cells bb2 [.d (I c3.fMany), .d (fnv300 3)]), (550041, .arr hd17 3 1 true (List.map I l13))]) (all2_le_refl _) (ai trivial) rfl (ai trivial) (ai (ai trivial)) (fun _ => rfl) ?_;rintro _ _;(conv=>whnf);cases h;exact ⟨_, ⟨(), trivial, rfl, rfl⟩, inO_at (ren := id) (ai trivial)⟩
         ·(conv=>whnf);refine sr ?_;(conv=>whnf);refine CallG.own (deskWorkBackC (bo1 := bo1) hN hx41) id [(550005, .cells bb2 [.d (I c3.fMany), .d (fnv300 3)]), (550041, .arr hd17 3 1 true (List.map I l13))] _ (fun y => [kW bo1 r22, (550005, .cells bb2 [.d (I c3.fMany), .d (fnv300 3)]), (550041, .arr hd17 3 1 true (List.map I l13))]) (all2_le_refl _) (ai trivial) rfl (ai trivial) (ai (ai trivial)) (fun _ => AV.le_refl _) (fun _ => rfl) ?_;rintro _ _;(conv=>whnf);cases h
          exact ⟨_, ⟨(), trivial, rfl, rfl⟩, inO_at (ren := id) (ai trivial)⟩
        ·replace h := ite_f hc11 h;rcases bcases (decide (c3.fDo = 4)) with hc12 | hc12
         ·replace h := ite_t hc12 h;rw [of_decide_eq_true hc12];obtain ⟨z13, hx42, h⟩ := obind h;rcases z13 with ⟨ra5, rb5⟩ | r23
          ·(conv=>whnf);refine sr ?_;(conv=>whnf);refine CallG.panic (deskWorkCloseC (bo1 := bo1) hN hx42) id [(550005, .cells bb2 [.d (I c3.fMany), .d (fnv300 4)]), (550041, .arr hd17 3 1 true (List.map I l13))] (fun y => [kW bo1 rb5, (550005, .cells bb2 [.d (I c3.fMany), .d (fnv300 4)]), (550041, .arr hd17 3 1 true (List.map I l13))]) (all2_le_refl _) (ai trivial) rfl (ai trivial) (ai (ai trivial)) (fun _ => rfl) ?_;rintro _ _;(conv=>whnf);cases h;exact ⟨_, ⟨(), trivial, rfl, rfl⟩, inO_at (ren := id) (ai trivial)⟩
          ·(conv=>whnf);refine sr ?_;(conv=>whnf);refine CallG.own (deskWorkCloseC (bo1 := bo1) hN hx42) id [(550005, .cells bb2 [.d (I c3.fMany), .d (fnv300 4)]), (550041, .arr hd17 3 1 true (List.map I l13))] _ (fun y => [kW bo1 r23, (550005, .cells bb2 [.d (I c3.fMany), .d (fnv300 4)]), (550041, .arr hd17 3 1 true (List.map I l13))]) (all2_le_refl _) (ai trivial) rfl (ai trivial) (ai (ai trivial)) (fun _ => AV.le_refl _) (fun _ => rfl) ?_;rintro _ _;(conv=>whnf);cases h
           exact ⟨_, ⟨(), trivial, rfl, rfl⟩, inO_at (ren := id) (ai trivial)⟩
         ·replace h := ite_f hc12 h;rcases bcases (decide (c3.fDo = 5)) with hc13 | hc13
          ·replace h := ite_t hc13 h;rw [of_decide_eq_true hc13];obtain ⟨z14, hx43, h⟩ := obind h;rcases z14 with ⟨ra6, rb6⟩ | r24
           ·(conv=>whnf);refine sr ?_;(conv=>whnf);refine CallG.panic (deskWorkSheetC (bo1 := bo1) hN hx43) id [(550005, .cells bb2 [.d (I c3.fMany), .d (fnv300 5)]), (550041, .arr hd17 3 1 true (List.map I l13))] (fun y => [kW bo1 rb6, (550005, .cells bb2 [.d (I c3.fMany), .d (fnv300 5)]), (550041, .arr hd17 3 1 true (List.map I l13))]) (all2_le_refl _) (ai trivial) rfl (ai trivial) (ai (ai trivial)) (fun _ => rfl) ?_;rintro _ _;(conv=>whnf);cases h;exact ⟨_, ⟨(), trivial, rfl, rfl⟩, inO_at (ren := id) (ai trivial)⟩
           ·(conv=>whnf);refine sr ?_;(conv=>whnf);refine CallG.own (deskWorkSheetC (bo1 := bo1) hN hx43) id [(550005, .cells bb2 [.d (I c3.fMany), .d (fnv300 5)]), (550041, .arr hd17 3 1 true (List.map I l13))] _ (fun y => [kW bo1 r24, (550005, .cells bb2 [.d (I c3.fMany), .d (fnv300 5)]), (550041, .arr hd17 3 1 true (List.map I l13))]) (all2_le_refl _) (ai trivial) rfl (ai trivial) (ai (ai trivial)) (fun _ => AV.le_refl _) (fun _ => rfl) ?_;rintro _ _;(conv=>whnf);cases h
            exact ⟨_, ⟨(), trivial, rfl, rfl⟩, inO_at (ren := id) (ai trivial)⟩
          ·replace h := ite_f hc13 h;rcases bcases (decide (c3.fDo = 6)) with hc14 | hc14
           ·replace h := ite_t hc14 h;rw [of_decide_eq_true hc14];obtain ⟨z15, hx44, h⟩ := obind h;rcases z15 with ⟨ra7, rb7⟩ | r25
            ·(conv=>whnf);refine sr ?_;(conv=>whnf);refine CallG.panic (deskWorkStrikeC (bo1 := bo1) hN hx44) id [(550005, .cells bb2 [.d (I c3.fMany), .d (fnv300 6)]), (550041, .arr hd17 3 1 true (List.map I l13))] (fun y => [kW bo1 rb7, (550005, .cells bb2 [.d (I c3.fMany), .d (fnv300 6)]), (550041, .arr hd17 3 1 true (List.map I l13))]) (all2_le_refl _) (ai trivial) rfl (ai trivial) (ai (ai trivial)) (fun _ => rfl) ?_;rintro _ _;(conv=>whnf);cases h;exact ⟨_, ⟨(), trivial, rfl, rfl⟩, inO_at (ren := id) (ai trivial)⟩
            ·(conv=>whnf);refine sr ?_;(conv=>whnf);refine CallG.own (deskWorkStrikeC (bo1 := bo1) hN hx44) id [(550005, .cells bb2 [.d (I c3.fMany), .d (fnv300 6)]), (550041, .arr hd17 3 1 true (List.map I l13))] _ (fun y => [kW bo1 r25, (550005, .cells bb2 [.d (I c3.fMany), .d (fnv300 6)]), (550041, .arr hd17 3 1 true (List.map I l13))]) (all2_le_refl _) (ai trivial) rfl (ai trivial) (ai (ai trivial)) (fun _ => AV.le_refl _) (fun _ => rfl) ?_;rintro _ _;(conv=>whnf);cases h
             exact ⟨_, ⟨(), trivial, rfl, rfl⟩, inO_at (ren := id) (ai trivial)⟩
           ·replace h := ite_f hc14 h;rcases bcases (decide (c3.fDo = 7)) with hc15 | hc15
            ·replace h := ite_t hc15 h;rw [of_decide_eq_true hc15];obtain ⟨z16, hx45, h⟩ := obind h;rcases z16 with ⟨ra8, rb8⟩ | r26
             ·(conv=>whnf);refine sr ?_;(conv=>whnf);refine CallG.panic (deskWorkDuelC (bo1 := bo1) hN hx45) id [(550005, .cells bb2 [.d (I c3.fMany), .d (fnv300 7)]), (550041, .arr hd17 3 1 true (List.map I l13))] (fun y => [kW bo1 rb8, (550005, .cells bb2 [.d (I c3.fMany), .d (fnv300 7)]), (550041, .arr hd17 3 1 true (List.map I l13))]) (all2_le_refl _) (ai trivial) rfl (ai trivial) (ai (ai trivial)) (fun _ => rfl) ?_;rintro _ _;(conv=>whnf);cases h;exact ⟨_, ⟨(), trivial, rfl, rfl⟩, inO_at (ren := id) (ai trivial)⟩
             ·(conv=>whnf);refine sr ?_;(conv=>whnf);refine CallG.own (deskWorkDuelC (bo1 := bo1) hN hx45) id [(550005, .cells bb2 [.d (I c3.fMany), .d (fnv300 7)]), (550041, .arr hd17 3 1 true (List.map I l13))] _ (fun y => [kW bo1 r26, (550005, .cells bb2 [.d (I c3.fMany), .d (fnv300 7)]), (550041, .arr hd17 3 1 true (List.map I l13))]) (all2_le_refl _) (ai trivial) rfl (ai trivial) (ai (ai trivial)) (fun _ => AV.le_refl _) (fun _ => rfl) ?_;rintro _ _;(conv=>whnf);cases h
              exact ⟨_, ⟨(), trivial, rfl, rfl⟩, inO_at (ren := id) (ai trivial)⟩
            ·replace h := ite_f hc15 h;rcases bcases (decide (c3.fDo = 8)) with hc16 | hc16
             ·replace h := ite_t hc16 h;rw [of_decide_eq_true hc16];obtain ⟨z17, hx46, h⟩ := obind h;rcases z17 with ⟨ra9, rb9⟩ | r27
              ·(conv=>whnf);refine sr ?_;(conv=>whnf);refine CallG.panic (deskWorkDoubtC (bo1 := bo1) hN hx46) id [(550005, .cells bb2 [.d (I c3.fMany), .d (fnv300 8)]), (550041, .arr hd17 3 1 true (List.map I l13))] (fun y => [kW bo1 rb9, (550005, .cells bb2 [.d (I c3.fMany), .d (fnv300 8)]), (550041, .arr hd17 3 1 true (List.map I l13))]) (all2_le_refl _) (ai trivial) rfl (ai trivial) (ai (ai trivial)) (fun _ => rfl) ?_;rintro _ _;(conv=>whnf);cases h;exact ⟨_, ⟨(), trivial, rfl, rfl⟩, inO_at (ren := id) (ai trivial)⟩
              ·(conv=>whnf);refine sr ?_;(conv=>whnf);refine CallG.own (deskWorkDoubtC (bo1 := bo1) hN hx46) id [(550005, .cells bb2 [.d (I c3.fMany), .d (fnv300 8)]), (550041, .arr hd17 3 1 true (List.map I l13))] _ (fun y => [kW bo1 r27, (550005, .cells bb2 [.d (I c3.fMany), .d (fnv300 8)]), (550041, .arr hd17 3 1 true (List.map I l13))]) (all2_le_refl _) (ai trivial) rfl (ai trivial) (ai (ai trivial)) (fun _ => AV.le_refl _) (fun _ => rfl) ?_;rintro _ _;(conv=>whnf);cases h
               exact ⟨_, ⟨(), trivial, rfl, rfl⟩, inO_at (ren := id) (ai trivial)⟩
             ·replace h := ite_f hc16 h;cases h
theorem deskWorkNextC {N : Nat} (hN : N ≤ 1073741824) {s1 : List UInt8} {c1 : DeskWork} {bo1 : Nat} {r : Int × DeskWork} (h : deskWorkNext N s1 c1 = some r) :
    ACalls Tryz.prog 95 [.ptr 540003 bo1 0, .d (.str s1)] [kW bo1 c1] (fun ae os => ∃ y : Unit, True ∧ ae = .ret (.d (I r.1)) ∧ os = [kW bo1 r.2]) := by
  unfold deskWorkNext at h
  split at h
  · cases h
  · rename_i e; cases h; exact next_pan (deskWorkLineC hN e)
  · rename_i e; cases h; exact next_ret (deskWorkLineC hN e)
theorem deskPlayC {N : Nat} (hN : N ≤ 1073741824) {lines1 : List (List UInt8)} {r : (List Int) × DeskWork} (h : deskPlay N lines1 = some r) :
    ACalls Tryz.prog 61 [.d (.list 1 (List.map D.str lines1))] [] fun ae os => ∃ y : Nat, True ∧ ae = .ret (.tup [.ptr 540003 y 0, .d (.list 1 (List.map I r.1))]) ∧ os = [kW y r.2] := by
  refine acalls_own (fresh := false) tt_ok dr_ok ⟨[], [], [], [], [1003], 310000, []⟩ Tryz.func61 rfl Tryz.call61 rfl ?_
  unfold deskPlay at h
  obtain ⟨r2, hx2, h⟩ := obind h;(conv=>whnf);refine CallG.own (deskBeginC hN hx2) id [] _ (fun y => [kW y r2]) (all2_le_refl _) trivial rfl trivial trivial (fun _ => AV.le_refl _) (fun _ => rfl) ?_;rintro b2 _;obtain ⟨⟨c5, l11⟩, hx27, h⟩ := obind h;(conv=>whnf)
  refine SeqG.mk Value (fun y => [(4, .ptr 540003 b2 0), (5, .sl 310020 y)]) (fun y => [kW b2 c5, (310020, .arr y 33 1 false (List.map I l11))]) (fun _ => True) ?_ ?_
  ·(conv=>whnf);refine LnA.mk _ (List.length_map _) ?_;(conv=>whnf)
   refine LoopG.mk (Nat × (Int × Int × DeskWork × (List Int)) × Value) (fun y => [(4, .ptr 540003 b2 0), (5, .sl 310020 y.2.2), (9, .d (.list 1 (List.map D.str lines1))), (10, .d (I y.2.1.1)), (11, .d (I y.2.1.2.1))]) (fun y => [kW b2 y.2.1.2.2.1, (310020, .arr y.2.2 33 1 false (List.map I y.2.1.2.2.2))]) (fun y => loopN (fun rr x => deskPlay_b1 N lines1 rr x.1 x.2.1 x.2.2.1 x.2.2.2) y.1 y.2.1 = some (c5, l11)) (fun y => y.1) (N, ((lines1.length : Int), 0, r2, []), (.slice none 0 0)) hx27 (Sub.eq rfl ?_ ?_) ?_
   ·(repeat ((conv=>whnf);refine nr ?_));exact trivial
   ·(conv=>whnf);refine no ?_;(conv=>whnf);refine Need.mk (OLe.nil _ _ _ _) ?_;exact trivial
   ·rintro ⟨n2, ⟨v17, v18, c9, l19⟩, hd29⟩ hl2;obtain ⟨n2, rfl, hl2⟩ := loopN_some hl2;replace hl2 : deskPlay_b1 N lines1 (loopN (fun rr x => deskPlay_b1 N lines1 rr x.1 x.2.1 x.2.2.1 x.2.2.2) n2) v17 v18 c9 l19 = some (c5, l11) := hl2;rw [deskPlay_b1] at hl2;(conv=>whnf);refine Br.mk (fun hc12 => ?_) (fun hc12 => ?_)
    ·replace hl2 := ite_t hc12 hl2;obtain ⟨x24, hx49, hl2⟩ := obind hl2;(conv=>whnf);refine Side.mk rfl ⟨_, idx_0 hx49, idx_map _ hx49, ?_⟩;obtain ⟨⟨ra12, rb12⟩, hx50, hl2⟩ := obind hl2;(conv=>whnf);refine CallG.own (deskWorkNextC (bo1 := b2) hN hx50) id [(310020, .arr hd29 33 1 false (List.map I l19))] _ (fun y => [kW b2 rb12, (310020, .arr hd29 33 1 false (List.map I l19))]) (all2_le_refl _) (ai trivial) rfl (ai trivial) (ai trivial) (fun _ => AV.le_refl _) (fun _ => rfl) ?_;rintro _ _
     (conv=>whnf);intro hd32;obtain ⟨l21, hx51, hl2⟩ := obind hl2;(conv=>whnf);refine Side.mk ⟨rfl, rfl⟩ ?_;(conv=>whnf);refine Side.mk ⟨rfl, rfl, rfl⟩ (Need.mk (app_need hN hx51 (by decide)) (Eqv.mk (List.map I l21) (app_map _ hx51) ?_));(conv=>whnf);intro hd33;(conv=>whnf);refine ⟨(n2, (v17, w64 (v18 + 1), rb12, l21), hd33), hl2, Sub.eq rfl ?_ ?_, Nat.lt_succ_self _⟩
     ·(repeat ((conv=>whnf);refine nr ?_));exact trivial
     ·(iterate 2 ((conv=>whnf);refine no ?_));exact trivial
    ·replace hl2 := ite_f hc12 hl2;cases hl2;(conv=>whnf);refine ⟨hd29, trivial, Sub.eq rfl ?_ ?_⟩
     ·(repeat ((conv=>whnf);refine nr ?_));exact trivial
     ·(iterate 2 ((conv=>whnf);refine no ?_));exact trivial
  ·rintro hd17 _;(conv=>whnf);refine sr ?_;(conv=>whnf);cases h;exact ⟨b2, trivial, rfl, inO_at (ren := id) (ai trivial)⟩
theorem frameLawTotalC {N : Nat} (hN : N ≤ 1073741824) {l1 : FrameLaw} {sheet1 : List Int} {r : Int} (h : frameLawTotal N l1 sheet1 = some r) :
    ACalls Tryz.prog 196 [.d (.agg [I l1.fFrames, I l1.fPins, I l1.fBalls, I l1.fTap]), .d (.list 1 (List.map I sheet1))] [] fun e os => e = .ret (.d (I r)) ∧ os = [] := by
  refine acalls_f (fresh := false) tt_ok dr_ok ⟨[2], [], [], [], [1002], 0, []⟩ Tryz.func196 rfl Tryz.call196 rfl ?_
  unfold frameLawTotal at h
  obtain ⟨r2, hx2, h⟩ := obind h;(conv=>whnf);refine CallG.pure _ (frameLawBeginC hN hx2) ?_;(conv=>whnf);intro b2;(conv=>whnf);refine sr ?_;obtain ⟨n6, hx33, h⟩ := obind h;(conv=>whnf);refine SeqG.mk Unit (fun y => [(4, .d (I n6))]) (fun y => []) (fun _ => True) ?_ ?_
  ·(conv=>whnf);refine LnA.mk _ (List.length_map _) ?_;(conv=>whnf);refine LoopG.mk (Nat × (Int × Int × Int × FramePlay)) (fun y => [(4, .d (I y.2.1)), (5, .ptr 5 b2 0), (13, .d (.list 1 (List.map I sheet1))), (14, .d (I y.2.2.1)), (15, .d (I y.2.2.2.1))]) (fun y => [(5, .cells b2 [.d (I y.2.2.2.2.fLaw.fFrames), .d (I y.2.2.2.2.fLaw.fPins), .d (I y.2.2.2.2.fLaw.fBalls), .d (I y.2.2.2.2.fLaw.fTap), .d (I y.2.2.2.2.fAt.fFrame), .d (I y.2.2.2.2.fAt.fThrown), .d (I y.2.2.2.2.fAt.fStanding), .d (.bool y.2.2.2.2.fAt.fFresh), .d (I y.2.2.2.2.fAt.fNeed), .d (I y.2.2.2.2.fAt.fAfter.a0), .d (I y.2.2.2.2.fAt.fAfter.a1)])]) (fun y => loopN (fun rr x => frameLawTotal_b1 N sheet1 rr x.1 x.2.1 x.2.2.1 x.2.2.2) y.1 y.2 = some n6) (fun y => y.1) (N, (0, (sheet1.length : Int), 0, r2)) hx33 (Sub.eq rfl ?_ ?_) ?_
   ·(repeat ((conv=>whnf);refine nr ?_));exact trivial
   ·(conv=>whnf);refine no ?_;exact trivial
   ·rintro ⟨n11, ⟨n10, v17, v18, p8⟩⟩ hl2;obtain ⟨n11, rfl, hl2⟩ := loopN_some hl2;replace hl2 : frameLawTotal_b1 N sheet1 (loopN (fun rr x => frameLawTotal_b1 N sheet1 rr x.1 x.2.1 x.2.2.1 x.2.2.2) n11) n10 v17 v18 p8 = some n6 := hl2;rw [frameLawTotal_b1] at hl2;(conv=>whnf);refine Br.mk (fun hc12 => ?_) (fun hc12 => ?_)
    ·replace hl2 := ite_t hc12 hl2;obtain ⟨x24, hx60, hl2⟩ := obind hl2;(conv=>whnf);refine Side.mk rfl ⟨_, idx_0 hx60, idx_map _ hx60, ?_⟩;(conv=>whnf);refine sr ?_;obtain ⟨⟨ra24, rb24, rc24⟩, hx62, hl2⟩ := obind hl2;(conv=>whnf);refine CallG.pure _ (framePlayNextC hN hx62) ?_;(conv=>whnf);intro b26;(conv=>whnf);refine sr ?_;obtain ⟨r14, hx63, hl2⟩ := obind hl2;(conv=>whnf);refine DrawG.mk (.take 0 (.take 1 (.take 4 (.alt 2 [4] (.alt 3 [4] (.take 5 (.alt 6 [] .done .nil)) .nil) .nil)))) (by kernel_rfl) ?_;(conv=>whnf);refine sr ?_;(conv=>whnf);refine Both.mk ?_ trivial;(conv=>whnf);intro hd24;(conv=>whnf);refine sr ?_;(conv=>whnf);refine nl ?_;(conv=>whnf);refine Both.mk ?_ trivial;(conv=>whnf);refine sr ?_;(conv=>whnf);refine CallG.pure _ (frameSumC hN hx63) ?_;(conv=>whnf);refine sr ?_;(conv=>whnf);refine nl ?_;(conv=>whnf);refine Both.mk ?_ trivial;(conv=>whnf);refine sr ?_
     (conv=>whnf);refine ⟨(n11, (r14, v17, w64 (v18 + 1), ra24)), hl2, Sub.eq rfl ?_ ?_, Nat.lt_succ_self _⟩
     ·(repeat ((conv=>whnf);refine nr ?_));exact trivial
     ·(conv=>whnf);refine no ?_;exact trivial
    ·replace hl2 := ite_f hc12 hl2;cases hl2;(conv=>whnf);refine ⟨(), trivial, Sub.eq rfl ?_ ?_⟩
     ·(repeat ((conv=>whnf);refine nr ?_));exact trivial
     ·exact trivial
  ·rintro _ _;(conv=>whnf);cases h;exact rfl
theorem framePlayLeastC {N : Nat} (hN : N ≤ 1073741824) {p1 : FramePlay} {r : Int} (h : framePlayLeast N p1 = some r) :
    ACalls Tryz.prog 158 [.d (.agg [I p1.fLaw.fFrames, I p1.fLaw.fPins, I p1.fLaw.fBalls, I p1.fLaw.fTap, I p1.fAt.fFrame, I p1.fAt.fThrown, I p1.fAt.fStanding, .bool p1.fAt.fFresh, I p1.fAt.fNeed, I p1.fAt.fAfter.a0, I p1.fAt.fAfter.a1])] [] fun e os => e = .ret (.d (I r)) ∧ os = [] := by
  refine acalls_f (fresh := false) tt_ok dr_ok ⟨[1], [], [], [], [], 0, []⟩ Tryz.func158 rfl Tryz.call158 rfl ?_
  unfold framePlayLeast at h
  (conv=>whnf);cases h;exact rfl
theorem frameLawFinalC {N : Nat} (hN : N ≤ 1073741824) {l1 : FrameLaw} {sheet1 : List Int} {r : Int} (h : frameLawFinal N l1 sheet1 = some r) :
    ACalls Tryz.prog 157 [.d (.agg [I l1.fFrames, I l1.fPins, I l1.fBalls, I l1.fTap]), .d (.list 1 (List.map I sheet1)), .d (.agg [.fn (.func 158) [] []])] [] fun e os => e = .ret (.d (I r)) ∧ os = [] := by
  refine acalls_f (fresh := false) tt_ok dr_ok ⟨[3, 5], [], [], [], [4, 1002], 0, []⟩ Tryz.func157 rfl Tryz.call157 rfl ?_
  unfold frameLawFinal at h
  obtain ⟨r2, hx2, h⟩ := obind h;(conv=>whnf);refine CallG.pure _ (frameLawTotalC hN hx2) ?_;obtain ⟨n6, hx54, h⟩ := obind h;(conv=>whnf);refine SeqG.mk Unit (fun y => [(7, .d (I n6))]) (fun y => []) (fun _ => True) ?_ ?_
  ·obtain ⟨r37, hx56, hx54⟩ := obind hx54;(conv=>whnf);refine CallG.pure _ (frameLawBehindC hN hx56) ?_;(conv=>whnf);intro b55;(conv=>whnf);refine sr ?_;(conv=>whnf);refine LoopG.mk (Nat × (Int × FramePlay) × Nat) (fun y => [(5, .d (.ref (.agg [.fn (.func 158) [] []]))), (7, .d (I y.2.1.1)), (8, .ptr 8 y.2.2 0)]) (fun y => [(8, .cells y.2.2 [.d (I y.2.1.2.fLaw.fFrames), .d (I y.2.1.2.fLaw.fPins), .d (I y.2.1.2.fLaw.fBalls), .d (I y.2.1.2.fLaw.fTap), .d (I y.2.1.2.fAt.fFrame), .d (I y.2.1.2.fAt.fThrown), .d (I y.2.1.2.fAt.fStanding), .d (.bool y.2.1.2.fAt.fFresh), .d (I y.2.1.2.fAt.fNeed), .d (I y.2.1.2.fAt.fAfter.a0), .d (I y.2.1.2.fAt.fAfter.a1)])]) (fun y => loopN (fun rr x => frameLawFinal_b1 N rr x.1 x.2) y.1 y.2.1 = some n6) (fun y => y.1) (N, (r2, r37), b55) hx54 (Sub.eq rfl ?_ ?_) ?_
   ·(repeat ((conv=>whnf);refine nr ?_));exact trivial
   ·(conv=>whnf);refine no ?_;exact trivial
   ·rintro ⟨n11, ⟨n10, p8⟩, bb28⟩ hl2;obtain ⟨n11, rfl, hl2⟩ := loopN_some hl2;replace hl2 : frameLawFinal_b1 N (loopN (fun rr x => frameLawFinal_b1 N rr x.1 x.2) n11) n10 p8 = some n6 := hl2;rw [frameLawFinal_b1] at hl2;(conv=>whnf);refine sr ?_;obtain ⟨r62, hx93, hl2⟩ := obind hl2;(conv=>whnf);refine CallG.pure _ (framePlayDoneC hN hx93) ?_;(conv=>whnf);refine Br.mk (fun hc12 => ?_) (fun hc12 => ?_)
    ·replace hl2 := ite_t hc12 hl2;obtain ⟨⟨worth24, now24⟩, hx102, hl2⟩ := obind hl2;(conv=>whnf);refine SeqG.mk Nat (fun y => [(5, .d (.ref (.agg [.fn (.func 158) [] []]))), (7, .d (I n10)), (8, .ptr 8 bb28 0), (9, .ptr 9 y 0), (11, .d (I worth24))]) (fun y => [(8, .cells bb28 [.d (I p8.fLaw.fFrames), .d (I p8.fLaw.fPins), .d (I p8.fLaw.fBalls), .d (I p8.fLaw.fTap), .d (I p8.fAt.fFrame), .d (I p8.fAt.fThrown), .d (I p8.fAt.fStanding), .d (.bool p8.fAt.fFresh), .d (I p8.fAt.fNeed), .d (I p8.fAt.fAfter.a0), .d (I p8.fAt.fAfter.a1)]), (9, .cells y [.d (I now24.fLaw.fFrames), .d (I now24.fLaw.fPins), .d (I now24.fLaw.fBalls), .d (I now24.fLaw.fTap), .d (I now24.fAt.fFrame), .d (I now24.fAt.fThrown), .d (I now24.fAt.fStanding), .d (.bool now24.fAt.fFresh), .d (I now24.fAt.fNeed), .d (I now24.fAt.fAfter.a0), .d (I now24.fAt.fAfter.a1)])]) (fun _ => True) ?_ ?_
     ·obtain ⟨r67, hx103, hx102⟩ := obind hx102;obtain ⟨⟨ra24, rb24, rc24⟩, hx104, hx102⟩ := obind hx102;(conv=>whnf);refine DrawG.mk (.take 0 (.take 1 (.take 2 (.take 3 (.alt 4 [1, 0] (.alt 5 [1] (.take 6 (.take 7 (.take 8 (.take 9 (.alt 10 [9, 8, 7, 6, 1] (.alt 11 [9, 8] (.take 12 (.take 13 .done)) .nil) .nil))))) (.alt 10 [1, 0] (.alt 5 [1] (.take 6 (.take 7 (.take 8 (.take 9 (.alt 11 [9, 8] (.take 12 (.take 13 .done)) .nil))))) .nil) .nil)) (.alt 10 [3, 2, 1, 0] (.alt 4 [1, 0] (.alt 5 [1] (.take 6 (.take 7 (.take 8 (.take 9 (.alt 11 [9, 8] (.take 12 (.take 13 .done)) .nil))))) .nil) .nil) .nil)))))) (by kernel_rfl) ?_;(iterate 2 ((conv=>whnf);refine sr ?_));(conv=>whnf);refine Both.mk ?_ ?_
      ·(conv=>whnf);refine CallG.pure _ (framePlayLeastC hN hx103) ?_;(conv=>whnf);refine nl ?_;(conv=>whnf);refine sr ?_;(conv=>whnf);refine nl ?_;(conv=>whnf);refine Both.mk ?_ ?_
       ·(conv=>whnf);refine CallG.pure _ (framePlayNextC hN hx104) ?_;(conv=>whnf);refine nl ?_;(conv=>whnf);refine Both.mk ?_ trivial;(conv=>whnf);intro b103;(iterate 5 ((conv=>whnf);refine nl ?_));(conv=>whnf);refine Both.mk ?_ trivial;(conv=>whnf);refine sr ?_;(iterate 2 ((conv=>whnf);refine nl ?_));cases hx102;(conv=>whnf);refine ⟨b103, trivial, Sub.eq rfl ?_ ?_⟩
        ·(repeat ((conv=>whnf);refine nr ?_));exact trivial
        ·(iterate 2 ((conv=>whnf);refine no ?_));exact trivial
       ·(conv=>whnf);refine Both.mk ?_ trivial;(conv=>whnf);intro b104;(conv=>whnf);refine nl ?_;(conv=>whnf);refine sr ?_;(conv=>whnf);refine nl ?_;(conv=>whnf);refine Both.mk ?_ trivial;(conv=>whnf);refine CallG.pure _ (framePlayNextC hN hx104) ?_;(conv=>whnf);refine nl ?_;(conv=>whnf);refine Both.mk ?_ trivial;(conv=>whnf);refine sr ?_;(iterate 2 ((conv=>whnf);refine nl ?_));cases hx102;(conv=>whnf);refine ⟨b104, trivial, Sub.eq rfl ?_ ?_⟩
        ·(repeat ((conv=>whnf);refine nr ?_));exact trivial
        ·(iterate 2 ((conv=>whnf);refine no ?_));exact trivial
      ·(conv=>whnf);refine Both.mk ?_ trivial;(conv=>whnf);intro b105;(conv=>whnf);refine sr ?_;(iterate 3 ((conv=>whnf);refine nl ?_));(conv=>whnf);refine sr ?_;(conv=>whnf);refine nl ?_;(conv=>whnf);refine Both.mk ?_ trivial;(conv=>whnf);refine CallG.pure _ (framePlayLeastC hN hx103) ?_;(conv=>whnf);refine nl ?_;(conv=>whnf);refine sr ?_;(conv=>whnf);refine nl ?_;(conv=>whnf);refine Both.mk ?_ trivial;(conv=>whnf);refine CallG.pure _ (framePlayNextC hN hx104) ?_;(conv=>whnf);refine nl ?_;(conv=>whnf);refine Both.mk ?_ trivial;(conv=>whnf);refine sr ?_;(iterate 2 ((conv=>whnf);refine nl ?_));cases hx102;(conv=>whnf);refine ⟨b105, trivial, Sub.eq rfl ?_ ?_⟩
       ·(repeat ((conv=>whnf);refine nr ?_));exact trivial
       ·(iterate 2 ((conv=>whnf);refine no ?_));exact trivial
     ·rintro bb32 _;obtain ⟨r68, hx105, hl2⟩ := obind hl2;(conv=>whnf);refine DrawG.mk (.take 0 (.take 1 (.take 4 (.alt 2 [4] (.alt 3 [4] (.take 5 (.alt 6 [] .done .nil)) .nil) .nil)))) (by kernel_rfl) ?_;(conv=>whnf);refine sr ?_;(conv=>whnf);refine Both.mk ?_ trivial;(conv=>whnf);intro hd24;(conv=>whnf);refine sr ?_;(conv=>whnf);refine nl ?_;(conv=>whnf);refine Both.mk ?_ trivial;(conv=>whnf);refine sr ?_;(conv=>whnf);refine CallG.pure _ (frameSumC hN hx105) ?_;(conv=>whnf);refine sr ?_;(conv=>whnf);refine nl ?_;(conv=>whnf);refine Both.mk ?_ trivial;(iterate 2 ((conv=>whnf);refine sr ?_));(conv=>whnf);intro b106;(conv=>whnf);refine sr ?_;(conv=>whnf);refine ⟨(n11, (r68, now24), b106), hl2, Sub.eq rfl ?_ ?_, Nat.lt_succ_self _⟩
      ·(repeat ((conv=>whnf);refine nr ?_));exact trivial
      ·(conv=>whnf);refine no ?_;exact trivial
    ·replace hl2 := ite_f hc12 hl2;cases hl2;(conv=>whnf);refine ⟨(), trivial, Sub.eq rfl ?_ ?_⟩
     ·(repeat ((conv=>whnf);refine nr ?_));exact trivial
     ·exact trivial
  ·rintro _ _;(conv=>whnf);cases h;exact rfl
theorem framePlayMostC {N : Nat} (hN : N ≤ 1073741824) {p1 : FramePlay} {r : Int} (h : framePlayMost N p1 = some r) :
    ACalls Tryz.prog 159 [.d (.agg [I p1.fLaw.fFrames, I p1.fLaw.fPins, I p1.fLaw.fBalls, I p1.fLaw.fTap, I p1.fAt.fFrame, I p1.fAt.fThrown, I p1.fAt.fStanding, .bool p1.fAt.fFresh, I p1.fAt.fNeed, I p1.fAt.fAfter.a0, I p1.fAt.fAfter.a1])] [] fun e os => e = .ret (.d (I r)) ∧ os = [] := by
  refine acalls_f (fresh := false) tt_ok dr_ok ⟨[1], [], [], [], [], 0, []⟩ Tryz.func159 rfl Tryz.call159 rfl ?_
  unfold framePlayMost at h
  (conv=>whnf);cases h;exact rfl
theorem frameLawFinalXC {N : Nat} (hN : N ≤ 1073741824) {l1 : FrameLaw} {sheet1 : List Int} {r : Int} (h : frameLawFinalX N l1 sheet1 = some r) :
    ACalls Tryz.prog 157 [.d (.agg [I l1.fFrames, I l1.fPins, I l1.fBalls, I l1.fTap]), .d (.list 1 (List.map I sheet1)), .d (.agg [.fn (.func 159) [] []])] [] fun e os => e = .ret (.d (I r)) ∧ os = [] := by
  refine acalls_f (fresh := false) tt_ok dr_ok ⟨[3, 5], [], [], [], [4, 1002], 0, []⟩ Tryz.func157 rfl Tryz.call157 rfl ?_
  unfold frameLawFinalX at h
  obtain ⟨r2, hx2, h⟩ := obind h;(conv=>whnf);refine CallG.pure _ (frameLawTotalC hN hx2) ?_;obtain ⟨n6, hx54, h⟩ := obind h;(conv=>whnf);refine SeqG.mk Unit (fun y => [(7, .d (I n6))]) (fun y => []) (fun _ => True) ?_ ?_
  ·obtain ⟨r37, hx56, hx54⟩ := obind hx54;(conv=>whnf);refine CallG.pure _ (frameLawBehindC hN hx56) ?_;(conv=>whnf);intro b55;(conv=>whnf);refine sr ?_;(conv=>whnf);refine LoopG.mk (Nat × (Int × FramePlay) × Nat) (fun y => [(5, .d (.ref (.agg [.fn (.func 159) [] []]))), (7, .d (I y.2.1.1)), (8, .ptr 8 y.2.2 0)]) (fun y => [(8, .cells y.2.2 [.d (I y.2.1.2.fLaw.fFrames), .d (I y.2.1.2.fLaw.fPins), .d (I y.2.1.2.fLaw.fBalls), .d (I y.2.1.2.fLaw.fTap), .d (I y.2.1.2.fAt.fFrame), .d (I y.2.1.2.fAt.fThrown), .d (I y.2.1.2.fAt.fStanding), .d (.bool y.2.1.2.fAt.fFresh), .d (I y.2.1.2.fAt.fNeed), .d (I y.2.1.2.fAt.fAfter.a0), .d (I y.2.1.2.fAt.fAfter.a1)])]) (fun y => loopN (fun rr x => frameLawFinalX_b1 N rr x.1 x.2) y.1 y.2.1 = some n6) (fun y => y.1) (N, (r2, r37), b55) hx54 (Sub.eq rfl ?_ ?_) ?_
   ·(repeat ((conv=>whnf);refine nr ?_));exact trivial
   ·(conv=>whnf);refine no ?_;exact trivial
   ·rintro ⟨n11, ⟨n10, p8⟩, bb28⟩ hl2;obtain ⟨n11, rfl, hl2⟩ := loopN_some hl2;replace hl2 : frameLawFinalX_b1 N (loopN (fun rr x => frameLawFinalX_b1 N rr x.1 x.2) n11) n10 p8 = some n6 := hl2;rw [frameLawFinalX_b1] at hl2;(conv=>whnf);refine sr ?_;obtain ⟨r62, hx93, hl2⟩ := obind hl2;(conv=>whnf);refine CallG.pure _ (framePlayDoneC hN hx93) ?_;(conv=>whnf);refine Br.mk (fun hc12 => ?_) (fun hc12 => ?_)
    ·replace hl2 := ite_t hc12 hl2;obtain ⟨⟨worth24, now24⟩, hx102, hl2⟩ := obind hl2;(conv=>whnf);refine SeqG.mk Nat (fun y => [(5, .d (.ref (.agg [.fn (.func 159) [] []]))), (7, .d (I n10)), (8, .ptr 8 bb28 0), (9, .ptr 9 y 0), (11, .d (I worth24))]) (fun y => [(8, .cells bb28 [.d (I p8.fLaw.fFrames), .d (I p8.fLaw.fPins), .d (I p8.fLaw.fBalls), .d (I p8.fLaw.fTap), .d (I p8.fAt.fFrame), .d (I p8.fAt.fThrown), .d (I p8.fAt.fStanding), .d (.bool p8.fAt.fFresh), .d (I p8.fAt.fNeed), .d (I p8.fAt.fAfter.a0), .d (I p8.fAt.fAfter.a1)]), (9, .cells y [.d (I now24.fLaw.fFrames), .d (I now24.fLaw.fPins), .d (I now24.fLaw.fBalls), .d (I now24.fLaw.fTap), .d (I now24.fAt.fFrame), .d (I now24.fAt.fThrown), .d (I now24.fAt.fStanding), .d (.bool now24.fAt.fFresh), .d (I now24.fAt.fNeed), .d (I now24.fAt.fAfter.a0), .d (I now24.fAt.fAfter.a1)])]) (fun _ => True) ?_ ?_
     ·obtain ⟨r67, hx103, hx102⟩ := obind hx102;obtain ⟨⟨ra24, rb24, rc24⟩, hx104, hx102⟩ := obind hx102;(conv=>whnf);refine DrawG.mk (.take 0 (.take 1 (.take 2 (.take 3 (.alt 4 [1, 0] (.alt 5 [1] (.take 6 (.take 7 (.take 8 (.take 9 (.alt 10 [9, 8, 7, 6, 1] (.alt 11 [9, 8] (.take 12 (.take 13 .done)) .nil) .nil))))) (.alt 10 [1, 0] (.alt 5 [1] (.take 6 (.take 7 (.take 8 (.take 9 (.alt 11 [9, 8] (.take 12 (.take 13 .done)) .nil))))) .nil) .nil)) (.alt 10 [3, 2, 1, 0] (.alt 4 [1, 0] (.alt 5 [1] (.take 6 (.take 7 (.take 8 (.take 9 (.alt 11 [9, 8] (.take 12 (.take 13 .done)) .nil))))) .nil) .nil) .nil)))))) (by kernel_rfl) ?_;(iterate 2 ((conv=>whnf);refine sr ?_));(conv=>whnf);refine Both.mk ?_ ?_
      ·(conv=>whnf);refine CallG.pure _ (framePlayMostC hN hx103) ?_;(conv=>whnf);refine nl ?_;(conv=>whnf);refine sr ?_;(conv=>whnf);refine nl ?_;(conv=>whnf);refine Both.mk ?_ ?_
       ·(conv=>whnf);refine CallG.pure _ (framePlayNextC hN hx104) ?_;(conv=>whnf);refine nl ?_;(conv=>whnf);refine Both.mk ?_ trivial;(conv=>whnf);intro b103;(iterate 5 ((conv=>whnf);refine nl ?_));(conv=>whnf);refine Both.mk ?_ trivial;(conv=>whnf);refine sr ?_;(iterate 2 ((conv=>whnf);refine nl ?_));cases hx102;(conv=>whnf);refine ⟨b103, trivial, Sub.eq rfl ?_ ?_⟩
        ·(repeat ((conv=>whnf);refine nr ?_));exact trivial
        ·(iterate 2 ((conv=>whnf);refine no ?_));exact trivial
       ·(conv=>whnf);refine Both.mk ?_ trivial;(conv=>whnf);intro b104;(conv=>whnf);refine nl ?_;(conv=>whnf);refine sr ?_;(conv=>whnf);refine nl ?_;(conv=>whnf);refine Both.mk ?_ trivial;(conv=>whnf);refine CallG.pure _ (framePlayNextC hN hx104) ?_;(conv=>whnf);refine nl ?_;(conv=>whnf);refine Both.mk ?_ trivial;(conv=>whnf);refine sr ?_;(iterate 2 ((conv=>whnf);refine nl ?_));cases hx102;(conv=>whnf);refine ⟨b104, trivial, Sub.eq rfl ?_ ?_⟩
        ·(repeat ((conv=>whnf);refine nr ?_));exact trivial
        ·(iterate 2 ((conv=>whnf);refine no ?_));exact trivial
      ·(conv=>whnf);refine Both.mk ?_ trivial;(conv=>whnf);intro b105;(conv=>whnf);refine sr ?_;(iterate 3 ((conv=>whnf);refine nl ?_));(conv=>whnf);refine sr ?_;(conv=>whnf);refine nl ?_;(conv=>whnf);refine Both.mk ?_ trivial;(conv=>whnf);refine CallG.pure _ (framePlayMostC hN hx103) ?_;(conv=>whnf);refine nl ?_;(conv=>whnf);refine sr ?_;(conv=>whnf);refine nl ?_;(conv=>whnf);refine Both.mk ?_ trivial;(conv=>whnf);refine CallG.pure _ (framePlayNextC hN hx104) ?_;(conv=>whnf);refine nl ?_;(conv=>whnf);refine Both.mk ?_ trivial;(conv=>whnf);refine sr ?_;(iterate 2 ((conv=>whnf);refine nl ?_));cases hx102;(conv=>whnf);refine ⟨b105, trivial, Sub.eq rfl ?_ ?_⟩
       ·(repeat ((conv=>whnf);refine nr ?_));exact trivial
       ·(iterate 2 ((conv=>whnf);refine no ?_));exact trivial
     ·rintro bb32 _;obtain ⟨r68, hx105, hl2⟩ := obind hl2;(conv=>whnf);refine DrawG.mk (.take 0 (.take 1 (.take 4 (.alt 2 [4] (.alt 3 [4] (.take 5 (.alt 6 [] .done .nil)) .nil) .nil)))) (by kernel_rfl) ?_;(conv=>whnf);refine sr ?_;(conv=>whnf);refine Both.mk ?_ trivial;(conv=>whnf);intro hd24;(conv=>whnf);refine sr ?_;(conv=>whnf);refine nl ?_;(conv=>whnf);refine Both.mk ?_ trivial;(conv=>whnf);refine sr ?_;(conv=>whnf);refine CallG.pure _ (frameSumC hN hx105) ?_;(conv=>whnf);refine sr ?_;(conv=>whnf);refine nl ?_;(conv=>whnf);refine Both.mk ?_ trivial;(iterate 2 ((conv=>whnf);refine sr ?_));(conv=>whnf);intro b106;(conv=>whnf);refine sr ?_;(conv=>whnf);refine ⟨(n11, (r68, now24), b106), hl2, Sub.eq rfl ?_ ?_, Nat.lt_succ_self _⟩
      ·(repeat ((conv=>whnf);refine nr ?_));exact trivial
      ·(conv=>whnf);refine no ?_;exact trivial
    ·replace hl2 := ite_f hc12 hl2;cases hl2;(conv=>whnf);refine ⟨(), trivial, Sub.eq rfl ?_ ?_⟩
     ·(repeat ((conv=>whnf);refine nr ?_));exact trivial
     ·exact trivial
  ·rintro _ _;(conv=>whnf);cases h;exact rfl
theorem frameLawSpanC {N : Nat} (hN : N ≤ 1073741824) {l1 : FrameLaw} {sheet1 : List Int} {r : FrameRange} (h : frameLawSpan N l1 sheet1 = some r) :
    ACalls Tryz.prog 110 [.d (.agg [I l1.fFrames, I l1.fPins, I l1.fBalls, I l1.fTap]), .d (.list 1 (List.map I sheet1))] [] fun e os => e = .ret (.d (.agg [I r.fLo, I r.fHi])) ∧ os = [] := by
  refine acalls_f (fresh := false) tt_ok dr_ok ⟨[2], [], [], [], [1], 0, []⟩ Tryz.func110 rfl Tryz.call110 rfl ?_
  unfold frameLawSpan at h
  (conv=>whnf);intro b2;obtain ⟨c2, hx3, h⟩ := obind h;(conv=>whnf);refine SeqG.mk Unit (fun y => [(4, .ptr 4 b2 0)]) (fun y => [(4, .cells b2 [.d (I c2.fLo), .d (I c2.fHi)])]) (fun _ => True) ?_ ?_
  ·obtain ⟨r3, hx4, hx3⟩ := obind hx3;obtain ⟨r4, hx5, hx3⟩ := obind hx3;(conv=>whnf);refine DrawG.mk (.take 0 (.take 1 (.take 4 (.take 5 (.alt 2 [5, 4, 1, 0] (.alt 3 [5, 4] (.alt 6 [5, 4] (.alt 7 [] (.alt 8 [] (.alt 9 [] .done .nil) .nil) .nil) .nil) (.alt 6 [5, 4, 1, 0] (.alt 3 [5, 4] (.alt 7 [] (.alt 8 [] (.alt 9 [] .done .nil) .nil) .nil) .nil) .nil)) (.alt 6 [5, 4, 1, 0] (.alt 2 [5, 4, 1, 0] (.alt 3 [5, 4] (.alt 7 [] (.alt 8 [] (.alt 9 [] .done .nil) .nil) .nil) .nil) .nil) .nil)))))) (by kernel_rfl) ?_;(conv=>whnf);refine Both.mk ?_ ?_
   ·(iterate 4 ((conv=>whnf);refine nl ?_));(conv=>whnf);refine Both.mk ?_ ?_
    ·(conv=>whnf);refine CallG.pure _ (frameLawFinalC hN hx4) ?_;(iterate 2 ((conv=>whnf);refine nl ?_));(conv=>whnf);refine Both.mk ?_ trivial;(iterate 2 ((conv=>whnf);refine nl ?_));(conv=>whnf);refine Both.mk ?_ trivial;(conv=>whnf);refine CallG.pure _ (frameLawFinalXC hN hx5) ?_;(conv=>whnf);refine Both.mk ?_ trivial;(conv=>whnf);refine Both.mk ?_ trivial;(conv=>whnf);refine sr ?_;cases hx3;(conv=>whnf);refine ⟨(), trivial, Sub.eq rfl ?_ ?_⟩
     ·(repeat ((conv=>whnf);refine nr ?_));exact trivial
     ·(conv=>whnf);refine no ?_;exact trivial
    ·(conv=>whnf);refine Both.mk ?_ trivial;(iterate 4 ((conv=>whnf);refine nl ?_));(conv=>whnf);refine Both.mk ?_ trivial;(conv=>whnf);refine CallG.pure _ (frameLawFinalC hN hx4) ?_;(iterate 2 ((conv=>whnf);refine nl ?_));(conv=>whnf);refine Both.mk ?_ trivial;(conv=>whnf);refine CallG.pure _ (frameLawFinalXC hN hx5) ?_;(conv=>whnf);refine Both.mk ?_ trivial;(conv=>whnf);refine Both.mk ?_ trivial;(conv=>whnf);refine sr ?_;cases hx3;(conv=>whnf);refine ⟨(), trivial, Sub.eq rfl ?_ ?_⟩
     ·(repeat ((conv=>whnf);refine nr ?_));exact trivial
     ·(conv=>whnf);refine no ?_;exact trivial
   ·(conv=>whnf);refine Both.mk ?_ trivial;(iterate 4 ((conv=>whnf);refine nl ?_));(conv=>whnf);refine Both.mk ?_ trivial;(iterate 4 ((conv=>whnf);refine nl ?_));(conv=>whnf);refine Both.mk ?_ trivial;(conv=>whnf);refine CallG.pure _ (frameLawFinalC hN hx4) ?_;(iterate 2 ((conv=>whnf);refine nl ?_));(conv=>whnf);refine Both.mk ?_ trivial;(conv=>whnf);refine CallG.pure _ (frameLawFinalXC hN hx5) ?_;(conv=>whnf);refine Both.mk ?_ trivial;(conv=>whnf);refine Both.mk ?_ trivial;(conv=>whnf);refine sr ?_;cases hx3;(conv=>whnf);refine ⟨(), trivial, Sub.eq rfl ?_ ?_⟩
    ·(repeat ((conv=>whnf);refine nr ?_));exact trivial
    ·(conv=>whnf);refine no ?_;exact trivial
  ·rintro _ _;(conv=>whnf);refine sr ?_;(conv=>whnf);cases h;exact rfl
theorem frameSpanC {N : Nat} (hN : N ≤ 1073741824) {l1 : FrameLaw} {balls1 : List Int} {r : FrameRange × Int} (h : frameSpan N l1 balls1 = some r) :
    ACalls Tryz.prog 66 [.d (.agg [I l1.fFrames, I l1.fPins, I l1.fBalls, I l1.fTap]), .d (.list 1 (List.map I balls1))] [] fun e os => e = .ret (.d (.tup [.agg [I r.1.fLo, I r.1.fHi], I r.2])) ∧ os = [] := by
  refine acalls_f (fresh := false) tt_ok dr_ok ⟨[2], [], [], [], [], 0, []⟩ Tryz.func66 rfl Tryz.call66 rfl ?_
  unfold frameSpan at h
  (conv=>whnf);intro b2;obtain ⟨r4, hx4, h⟩ := obind h;(conv=>whnf);refine CallG.pure _ (frameLawCheckC hN hx4) ?_;(conv=>whnf);refine Br.mk (fun hc2 => ?_) (fun hc2 => ?_)
  ·replace h := ite_t hc2 h;cases h
  ·replace h := ite_f hc2 h;obtain ⟨r6, hx6, h⟩ := obind h;(conv=>whnf);refine CallG.pure _ (frameLawSpanC hN hx6) ?_;(iterate 2 ((conv=>whnf);refine sr ?_));(conv=>whnf);cases h;exact rfl
theorem deskBoardC {N : Nat} (hN : N ≤ 1073741824) {lines1 : List (List UInt8)} {lane1 : Int} {r : (List Int) × Int × Int × Int} (h : deskBoard N lines1 lane1 = some r) :
    ACalls Tryz.prog 28 [.d (.list 1 (List.map D.str lines1)), .d (I lane1)] [] fun e os => e = .ret (.d (.tup [.list 1 (List.map I r.1), I r.2.1, I r.2.2.1, I r.2.2.2])) ∧ os = [] := by
  refine acalls_f (fresh := false) tt_ok dr_ok ⟨[], [], [], [], [5], 0, []⟩ Tryz.func28 rfl Tryz.call28 rfl ?_
  unfold deskBoard at h
  obtain ⟨r4, hx4, h⟩ := obind h;(conv=>whnf);refine CallG.pure _ (deskCheckC hN hx4) ?_;(conv=>whnf);refine Br.mk (fun hc2 => ?_) (fun hc2 => ?_)
  ·replace h := ite_t hc2 h;cases h
  ·replace h := ite_f hc2 h;obtain ⟨⟨ra2, rb2⟩, hx6, h⟩ := obind h;(conv=>whnf);refine CallG.own (deskPlayC hN hx6) id [] _ (fun y => [kW y rb2]) (all2_le_refl _) trivial rfl trivial trivial (fun _ => AV.le_refl _) (fun _ => rfl) ?_;rintro b2 _;obtain ⟨v4, hx14, h⟩ := obind h;(conv=>whnf)
   refine SeqG.mk Unit (fun y => [(1, .d (I lane1)), (9, .ptr 540003 b2 0), (47, .d (.bool v4))]) (fun y => [kW b2 rb2]) (fun _ => True) ?_ ?_
   ·(conv=>whnf);refine sr ?_;(conv=>whnf);refine LnA.mk _ (List.length_map _) ?_;obtain ⟨r8, hx15, hx14⟩ := obind hx14;(conv=>whnf);refine CallG.pure _ (deskWithinC hN hx15) ?_;(conv=>whnf);refine Br.mk (fun hc7 => ?_) (fun hc7 => ?_)
    ·replace hx14 := ite_f hc7 hx14;(conv=>whnf);refine sr ?_;obtain ⟨x4, hx16, hx14⟩ := obind hx14;(conv=>whnf);refine Side.mk rfl ⟨_, idx_0 hx16, idx_map _ hx16, ?_⟩;cases hx14;(conv=>whnf);refine ⟨(), trivial, Sub.eq rfl ?_ ?_⟩
     ·(repeat ((conv=>whnf);refine nr ?_));exact trivial
     ·(conv=>whnf);refine no ?_;exact trivial
    ·replace hx14 := ite_t hc7 hx14;cases hx14;(conv=>whnf);refine ⟨(), trivial, Sub.eq rfl ?_ ?_⟩
     ·(repeat ((conv=>whnf);refine nr ?_));exact trivial
     ·(conv=>whnf);refine no ?_;exact trivial
   ·rintro _ _;(conv=>whnf);refine Br.mk (fun hc8 => ?_) (fun hc8 => ?_)
    ·replace h := ite_t hc8 h;(conv=>whnf);cases h;exact rfl
    ·replace h := ite_f hc8 h;(conv=>whnf);refine sr ?_;obtain ⟨x6, hx18, h⟩ := obind h;(conv=>whnf);refine Side.mk rfl ⟨_, idx_0 hx18, idx_map _ hx18, ?_⟩;obtain ⟨r10, hx21, h⟩ := obind h;(conv=>whnf);refine CallG.pure _ (deskLawC hN hx21) ?_;obtain ⟨⟨ra4, rb4⟩, hx22, h⟩ := obind h;(conv=>whnf);refine CallG.pure _ (frameReadC hN hx22) ?_;(conv=>whnf);intro b4;(conv=>whnf);refine sr ?_;obtain ⟨r12, hx25, h⟩ := obind h;(conv=>whnf);refine CallG.pure _ (deskLawC hN hx25) ?_;obtain ⟨⟨ra6, rb6⟩, hx26, h⟩ := obind h;(conv=>whnf);refine CallG.pure _ (frameSpanC hN hx26) ?_;(conv=>whnf);intro b6;(conv=>whnf);refine sr ?_;(conv=>whnf);refine DrawG.mk (.take 0 (.take 1 (.take 2 (.take 3 (.take 4 (.take 5 (.take 6 (.take 7 (.take 8 (.take 9 .done)))))))))) (by kernel_rfl) ?_;(iterate 3 ((conv=>whnf);refine sr ?_));(conv=>whnf);cases h;exact rfl
theorem deskWorkBookC {N : Nat} (hN : N ≤ 1073741824) {c1 : DeskWork} {bo1 : Nat} {r : RateBook} (h : deskWorkBook N c1 = some r) :
    ACalls Tryz.prog 70 [.ptr 540003 bo1 0] [kW bo1 c1] fun ae os => ∃ y : Unit, True ∧ ae = .ret (.d (.agg [I r.fLaw.fBase, I r.fLaw.fPercent, I r.fLaw.fCap, I r.fLaw.fLeast, I r.fLaw.fBlind, .list 1 (List.map I r.fBowlers), .list 6 (List.map RateSheet.enc r.fSheets), .list 1 (List.map I r.fWithdrawn)])) ∧ os = [kW bo1 c1] := by
  refine acalls_own (fresh := false) tt_ok dr_ok ⟨[], [], [], [], [], 550000, []⟩ Tryz.func70 rfl Tryz.call70 rfl ?_
  unfold deskWorkBook at h
  (conv=>whnf);intro b2;(conv=>whnf);refine DrawG.mk (.take 1 (.take 2 (.take 3 (.take 4 (.take 5 (.take 6 (.take 7 (.take 8 (.take 9 (.take 10 (.take 11 (.take 12 (.take 13 (.take 14 (.take 15 (.alt 0 [15, 14, 13, 12, 11, 10, 9, 8, 7, 6, 5, 4, 3, 2, 1] (.alt 16 [14, 13, 12, 11, 9, 8, 7, 6, 4, 3, 2, 1] (.alt 17 [] .done .nil) .nil) .nil)))))))))))))))) (by kernel_rfl) ?_;(iterate 3 ((conv=>whnf);refine sr ?_));(conv=>whnf);refine Both.mk ?_ trivial;(conv=>whnf);refine sr ?_;(iterate 5 ((conv=>whnf);refine nl ?_));(conv=>whnf);refine sr ?_;(iterate 5 ((conv=>whnf);refine nl ?_));(conv=>whnf);refine sr ?_;(iterate 2 ((conv=>whnf);refine nl ?_));(conv=>whnf)
  refine nl ?_;(iterate 2 ((conv=>whnf);refine nl ?_));(conv=>whnf);refine Both.mk ?_ trivial;(iterate 12 ((conv=>whnf);refine nl ?_));(conv=>whnf);refine Both.mk ?_ trivial;(iterate 2 ((conv=>whnf);refine sr ?_));(conv=>whnf);cases h;exact ⟨(), trivial, rfl, inO_at (ren := id) (ai trivial)⟩
theorem rateWithinC {N : Nat} (hN : N ≤ 1073741824) {n1 : Int} {low1 : Int} {high1 : Int} {r : Bool} (h : rateWithin N n1 low1 high1 = some r) :
    ACalls Tryz.prog 183 [.d (I n1), .d (I low1), .d (I high1)] [] fun e os => e = .ret (.d (.bool r)) ∧ os = [] := by
  refine acalls_f (fresh := false) tt_ok dr_ok ⟨[], [], [], [], [1], 0, []⟩ Tryz.func183 rfl Tryz.call183 rfl ?_
  unfold rateWithin at h
  obtain ⟨v2, hx1, h⟩ := obind h;(conv=>whnf);refine SeqG.mk Unit (fun y => [(6, .d (.bool v2))]) (fun y => []) (fun _ => True) ?_ ?_
  ·(conv=>whnf);refine Br.mk (fun hc2 => ?_) (fun hc2 => ?_)
   ·replace hx1 := ite_t hc2 hx1;cases hx1;(conv=>whnf);refine ⟨(), trivial, Sub.eq rfl ?_ ?_⟩
    ·(repeat ((conv=>whnf);refine nr ?_));exact trivial
    ·exact trivial
   ·replace hx1 := ite_f hc2 hx1;cases hx1;(conv=>whnf);refine ⟨(), trivial, Sub.eq rfl ?_ ?_⟩
    ·(repeat ((conv=>whnf);refine nr ?_));exact trivial
    ·exact trivial
  ·rintro _ _;(conv=>whnf);cases h;exact rfl
theorem rateCountC {N : Nat} (hN : N ≤ 1073741824) {n1 : Int} {r : Bool} (h : rateCount N n1 = some r) :
    ACalls Tryz.prog 201 [.d (I n1)] [] fun e os => e = .ret (.d (.bool r)) ∧ os = [] := by
  refine acalls_f (fresh := false) tt_ok dr_ok ⟨[], [], [], [], [], 0, []⟩ Tryz.func201 rfl Tryz.call201 rfl ?_
  unfold rateCount at h
  obtain ⟨r2, hx2, h⟩ := obind h;(conv=>whnf);refine CallG.pure _ (rateWithinC hN hx2) ?_;(conv=>whnf);cases h;exact rfl
theorem rateLawValidC {N : Nat} (hN : N ≤ 1073741824) {l1 : RateLaw} {r : Bool} (h : rateLawValid N l1 = some r) :
    ACalls Tryz.prog 199 [.d (.agg [I l1.fBase, I l1.fPercent, I l1.fCap, I l1.fLeast, I l1.fBlind])] [] fun e os => e = .ret (.d (.bool r)) ∧ os = [] := by
  refine acalls_f (fresh := false) tt_ok dr_ok ⟨[1], [], [], [], [1], 0, []⟩ Tryz.func199 rfl Tryz.call199 rfl ?_
  unfold rateLawValid at h
  obtain ⟨v2, hx6, h⟩ := obind h;(conv=>whnf);refine SeqG.mk Unit (fun y => [(2, .d (.bool v2))]) (fun y => []) (fun _ => True) ?_ ?_
  ·obtain ⟨r6, hx7, hx6⟩ := obind hx6;(conv=>whnf);refine CallG.pure _ (rateCountC hN hx7) ?_;(conv=>whnf);refine Br.mk (fun hc5 => ?_) (fun hc5 => ?_)
   ·replace hx6 := ite_t hc5 hx6;obtain ⟨r7, hx8, hx6⟩ := obind hx6;(conv=>whnf);refine CallG.pure _ (rateWithinC hN hx8) ?_;(conv=>whnf);refine Br.mk (fun hc6 => ?_) (fun hc6 => ?_)
    ·replace hx6 := ite_t hc6 hx6;obtain ⟨r8, hx9, hx6⟩ := obind hx6;(conv=>whnf);refine CallG.pure _ (rateCountC hN hx9) ?_;(conv=>whnf);refine Br.mk (fun hc7 => ?_) (fun hc7 => ?_)
     ·replace hx6 := ite_t hc7 hx6;obtain ⟨r9, hx10, hx6⟩ := obind hx6;(conv=>whnf);refine CallG.pure _ (rateWithinC hN hx10) ?_;(conv=>whnf);refine Br.mk (fun hc8 => ?_) (fun hc8 => ?_)
      ·replace hx6 := ite_t hc8 hx6;obtain ⟨r10, hx11, hx6⟩ := obind hx6;(conv=>whnf);refine CallG.pure _ (rateCountC hN hx11) ?_;cases hx6;(conv=>whnf);refine ⟨(), trivial, Sub.eq rfl ?_ ?_⟩
       ·(repeat ((conv=>whnf);refine nr ?_));exact trivial
       ·exact trivial
      ·replace hx6 := ite_f hc8 hx6;cases hx6;(conv=>whnf);refine ⟨(), trivial, Sub.eq rfl ?_ ?_⟩
       ·(repeat ((conv=>whnf);refine nr ?_));exact trivial
       ·exact trivial
     ·replace hx6 := ite_f hc7 hx6;cases hx6;(conv=>whnf);refine ⟨(), trivial, Sub.eq rfl ?_ ?_⟩
      ·(repeat ((conv=>whnf);refine nr ?_));exact trivial
      ·exact trivial
    ·replace hx6 := ite_f hc6 hx6;cases hx6;(conv=>whnf);refine ⟨(), trivial, Sub.eq rfl ?_ ?_⟩
     ·(repeat ((conv=>whnf);refine nr ?_));exact trivial
     ·exact trivial
   ·replace hx6 := ite_f hc5 hx6;cases hx6;(conv=>whnf);refine ⟨(), trivial, Sub.eq rfl ?_ ?_⟩
    ·(repeat ((conv=>whnf);refine nr ?_));exact trivial
    ·exact trivial
  ·rintro _ _;(conv=>whnf);cases h;exact rfl
theorem rateAll1C {N : Nat} (hN : N ≤ 1073741824) {x1 : Int} {r : Bool} (h : rateAll1 N x1 = some r) :
    ACalls Tryz.prog 249 [.d (I x1), .d (.ref (.agg [.fn (.func 201) [] []]))] [] fun e os => e = .ret (.d (.bool r)) ∧ os = [] := by
  refine acalls_f (fresh := false) tt_ok dr_ok ⟨[], [], [], [], [], 0, []⟩ Tryz.func249 rfl Tryz.call249 rfl ?_
  unfold rateAll1 at h
  obtain ⟨r2, hx2, h⟩ := obind h;(conv=>whnf);refine CallG.pure _ (rateCountC hN hx2) ?_;(conv=>whnf);cases h;exact rfl
theorem slicesIndexFuncXXXXXC {N : Nat} (hN : N ≤ 1073741824) {s1 : List Int} {r : Int} (h : slicesIndexFuncXXXXX N s1 = some r) :
    ACalls Tryz.prog 290 [.d (.list 1 (List.map I s1)), .d (.fn (.func 249) [] [.ref (.agg [.fn (.func 201) [] []])])] [] fun e os => e = .ret (.d (I r)) ∧ os = [] := by
  refine acalls_f (fresh := false) tt_ok dr_ok ⟨[], [], [], [], [1001], 0, []⟩ Tryz.func290 rfl Tryz.call290 rfl ?_
  unfold slicesIndexFuncXXXXX at h
  (conv=>whnf);refine SeqG.mk Unit (fun y => []) (fun y => []) (fun y => slicesIndexFuncXXXXX_k1 N = some r) ?_ ?_
  ·(conv=>whnf);refine LnA.mk _ (List.length_map _) ?_;(conv=>whnf);refine LoopG.mk (Nat × (Int × Int)) (fun y => [(0, .d (.list 1 (List.map I s1))), (1, .d (.fn (.func 249) [] [.ref (.agg [.fn (.func 201) [] []])])), (7, .d (I y.2.1)), (8, .d (I y.2.2))]) (fun y => []) (fun y => loopN (fun rr x => slicesIndexFuncXXXXX_b2 N s1 rr x.1 x.2) y.1 y.2 = some r) (fun y => y.1) (N, ((s1.length : Int), 0)) h (Sub.eq rfl ?_ ?_) ?_
   ·(repeat ((conv=>whnf);refine nr ?_));exact trivial
   ·exact trivial
   ·rintro ⟨n2, ⟨v17, v18⟩⟩ hl2;obtain ⟨n2, rfl, hl2⟩ := loopN_some hl2;replace hl2 : slicesIndexFuncXXXXX_b2 N s1 (loopN (fun rr x => slicesIndexFuncXXXXX_b2 N s1 rr x.1 x.2) n2) v17 v18 = some r := hl2;rw [slicesIndexFuncXXXXX_b2] at hl2;(conv=>whnf);refine Br.mk (fun hc22 => ?_) (fun hc22 => ?_)
    ·replace hl2 := ite_t hc22 hl2;obtain ⟨x24, hx47, hl2⟩ := obind hl2;(conv=>whnf);refine Side.mk rfl ⟨_, idx_0 hx47, idx_map _ hx47, ?_⟩;obtain ⟨r24, hx48, hl2⟩ := obind hl2;(conv=>whnf);refine CallG.pure _ (rateAll1C hN hx48) ?_;(conv=>whnf);refine Br.mk (fun hc24 => ?_) (fun hc24 => ?_)
     ·replace hl2 := ite_t hc24 hl2;(conv=>whnf);cases hl2;exact rfl
     ·replace hl2 := ite_f hc24 hl2;(conv=>whnf);refine ⟨(n2, (v17, w64 (v18 + 1))), hl2, Sub.eq rfl ?_ ?_, Nat.lt_succ_self _⟩
      ·(repeat ((conv=>whnf);refine nr ?_));exact trivial
      ·exact trivial
    ·replace hl2 := ite_f hc22 hl2;(conv=>whnf);refine ⟨(), hl2, Sub.eq rfl ?_ ?_⟩
     ·(repeat ((conv=>whnf);refine nr ?_));exact trivial
     ·exact trivial
  ·clear h;rintro _ h;unfold slicesIndexFuncXXXXX_k1 at h;(conv=>whnf);cases h;exact rfl
theorem slicesContainsFuncXXXXC {N : Nat} (hN : N ≤ 1073741824) {s1 : List Int} {r : Bool} (h : slicesContainsFuncXXXX N s1 = some r) :
    ACalls Tryz.prog 248 [.d (.list 1 (List.map I s1)), .d (.fn (.func 249) [] [.ref (.agg [.fn (.func 201) [] []])])] [] fun e os => e = .ret (.d (.bool r)) ∧ os = [] := by
  refine acalls_f (fresh := false) tt_ok dr_ok ⟨[], [], [], [], [], 0, []⟩ Tryz.func248 rfl Tryz.call248 rfl ?_
  unfold slicesContainsFuncXXXX at h
  obtain ⟨r2, hx2, h⟩ := obind h;(conv=>whnf);refine CallG.pure _ (slicesIndexFuncXXXXXC hN hx2) ?_;(conv=>whnf);cases h;exact rfl
theorem rateAllC {N : Nat} (hN : N ≤ 1073741824) {l1 : List Int} {r : Bool} (h : rateAll N l1 = some r) :
    ACalls Tryz.prog 200 [.d (.list 1 (List.map I l1)), .d (.fn (.func 201) [] [])] [] fun e os => e = .ret (.d (.bool r)) ∧ os = [] := by
  refine acalls_f (fresh := false) tt_ok dr_ok ⟨[3], [], [], [], [], 0, []⟩ Tryz.func200 rfl Tryz.call200 rfl ?_
  unfold rateAll at h
  obtain ⟨r2, hx2, h⟩ := obind h;(conv=>whnf);refine CallG.pure _ (slicesContainsFuncXXXXC hN hx2) ?_;(conv=>whnf);cases h;exact rfl
theorem slicesIndexFuncXXXXXXC {N : Nat} (hN : N ≤ 1073741824) {s1 : List RateSheet} {f1 : RateBook} {r : Int} (h : slicesIndexFuncXXXXXX N s1 f1 = some r) :
    ACalls Tryz.prog 291 [.d (.list 6 (List.map RateSheet.enc s1)), .d (.fn (.func 251) [] [.ref (.agg [.fn (.func 203) [.agg [I f1.fLaw.fBase, I f1.fLaw.fPercent, I f1.fLaw.fCap, I f1.fLaw.fLeast, I f1.fLaw.fBlind, .list 1 (List.map I f1.fBowlers), .list 6 (List.map RateSheet.enc f1.fSheets), .list 1 (List.map I f1.fWithdrawn)]] []])])] [] fun e os => e = .ret (.d (I r)) ∧ os = [] := by
  refine acalls_f (fresh := false) tt_ok dr_ok ⟨[], [], [], [], [1001], 0, []⟩ Tryz.func291 rfl Tryz.call291 rfl ?_
  unfold slicesIndexFuncXXXXXX at h
  obtain ⟨_, hx13, h⟩ := obind h;(conv=>whnf);refine SeqG.mk Unit (fun y => []) (fun y => []) (fun _ => True) ?_ ?_
  ·(conv=>whnf);refine LnA.mk _ (List.length_map _) ?_;(conv=>whnf);refine LoopG.mk (Nat × Int) (fun y => [(0, .d (.list 6 (List.map RateSheet.enc s1))), (1, .d (.fn (.func 251) [] [.ref (.agg [.fn (.func 203) [.agg [I f1.fLaw.fBase, I f1.fLaw.fPercent, I f1.fLaw.fCap, I f1.fLaw.fLeast, I f1.fLaw.fBlind, .list 1 (List.map I f1.fBowlers), .list 6 (List.map RateSheet.enc f1.fSheets), .list 1 (List.map I f1.fWithdrawn)]] []])])), (7, .d (I y.2)), (8, .i .i64 0)]) (fun y => []) (fun y => loopN (fun rr x => slicesIndexFuncXXXXXX_b1 N s1 rr x) y.1 y.2 = some ()) (fun y => y.1) (N, (s1.length : Int)) hx13 (Sub.eq rfl ?_ ?_) ?_
   ·(repeat ((conv=>whnf);refine nr ?_));exact trivial
   ·exact trivial
   ·rintro ⟨n2, v10⟩ hl2;obtain ⟨n2, rfl, hl2⟩ := loopN_some hl2;replace hl2 : slicesIndexFuncXXXXXX_b1 N s1 (loopN (fun rr x => slicesIndexFuncXXXXXX_b1 N s1 rr x) n2) v10 = some () := hl2;rw [slicesIndexFuncXXXXXX_b1] at hl2;(conv=>whnf);refine Br.mk (fun hc12 => ?_) (fun hc12 => ?_)
    ·replace hl2 := ite_t hc12 hl2;obtain ⟨x24, hx25, hl2⟩ := obind hl2;(conv=>whnf);refine Side.mk rfl ⟨_, idx_0 hx25, idx_map _ hx25, ?_⟩;cases hl2
    ·replace hl2 := ite_f hc12 hl2;(conv=>whnf);refine ⟨(), trivial, Sub.eq rfl ?_ ?_⟩
     ·(repeat ((conv=>whnf);refine nr ?_));exact trivial
     ·exact trivial
  ·rintro _ _;(conv=>whnf);cases h;exact rfl
theorem slicesContainsFuncXXXXXC {N : Nat} (hN : N ≤ 1073741824) {s1 : List RateSheet} {f1 : RateBook} {r : Bool} (h : slicesContainsFuncXXXXX N s1 f1 = some r) :
    ACalls Tryz.prog 250 [.d (.list 6 (List.map RateSheet.enc s1)), .d (.fn (.func 251) [] [.ref (.agg [.fn (.func 203) [.agg [I f1.fLaw.fBase, I f1.fLaw.fPercent, I f1.fLaw.fCap, I f1.fLaw.fLeast, I f1.fLaw.fBlind, .list 1 (List.map I f1.fBowlers), .list 6 (List.map RateSheet.enc f1.fSheets), .list 1 (List.map I f1.fWithdrawn)]] []])])] [] fun e os => e = .ret (.d (.bool r)) ∧ os = [] := by
  refine acalls_f (fresh := false) tt_ok dr_ok ⟨[], [], [], [], [], 0, []⟩ Tryz.func250 rfl Tryz.call250 rfl ?_
  unfold slicesContainsFuncXXXXX at h
  obtain ⟨r2, hx2, h⟩ := obind h;(conv=>whnf);refine CallG.pure _ (slicesIndexFuncXXXXXXC hN hx2) ?_;(conv=>whnf);cases h;exact rfl
theorem rateAllXC {N : Nat} (hN : N ≤ 1073741824) {l1 : List RateSheet} {right1 : RateBook} {r : Bool} (h : rateAllX N l1 right1 = some r) :
    ACalls Tryz.prog 202 [.d (.list 6 (List.map RateSheet.enc l1)), .d (.fn (.func 203) [.agg [I right1.fLaw.fBase, I right1.fLaw.fPercent, I right1.fLaw.fCap, I right1.fLaw.fLeast, I right1.fLaw.fBlind, .list 1 (List.map I right1.fBowlers), .list 6 (List.map RateSheet.enc right1.fSheets), .list 1 (List.map I right1.fWithdrawn)]] [])] [] fun e os => e = .ret (.d (.bool r)) ∧ os = [] := by
  refine acalls_f (fresh := false) tt_ok dr_ok ⟨[3], [], [], [], [], 0, []⟩ Tryz.func202 rfl Tryz.call202 rfl ?_
  unfold rateAllX at h
  obtain ⟨r2, hx2, h⟩ := obind h;(conv=>whnf);refine CallG.pure _ (slicesContainsFuncXXXXXC hN hx2) ?_;(conv=>whnf);cases h;exact rfl
theorem slicesIndexFuncXXXXXXXC {N : Nat} (hN : N ≤ 1073741824) {s1 : List Int} {r : Int} (h : slicesIndexFuncXXXXXXX N s1 = some r) :
    ACalls Tryz.prog 290 [.d (.list 1 (List.map I s1)), .d (.fn (.func 249) [] [.ref (.agg [.fn (.func 204) [] []])])] [] fun e os => e = .ret (.d (I r)) ∧ os = [] := by
  refine acalls_f (fresh := false) tt_ok dr_ok ⟨[], [], [], [], [1001], 0, []⟩ Tryz.func290 rfl Tryz.call290 rfl ?_
  unfold slicesIndexFuncXXXXXXX at h
  obtain ⟨_, hx13, h⟩ := obind h;(conv=>whnf);refine SeqG.mk Unit (fun y => []) (fun y => []) (fun _ => True) ?_ ?_
  ·(conv=>whnf);refine LnA.mk _ (List.length_map _) ?_;(conv=>whnf);refine LoopG.mk (Nat × Int) (fun y => [(0, .d (.list 1 (List.map I s1))), (1, .d (.fn (.func 249) [] [.ref (.agg [.fn (.func 204) [] []])])), (7, .d (I y.2)), (8, .i .i64 0)]) (fun y => []) (fun y => loopN (fun rr x => slicesIndexFuncXXXXXXX_b1 N s1 rr x) y.1 y.2 = some ()) (fun y => y.1) (N, (s1.length : Int)) hx13 (Sub.eq rfl ?_ ?_) ?_
   ·(repeat ((conv=>whnf);refine nr ?_));exact trivial
   ·exact trivial
   ·rintro ⟨n2, v10⟩ hl2;obtain ⟨n2, rfl, hl2⟩ := loopN_some hl2;replace hl2 : slicesIndexFuncXXXXXXX_b1 N s1 (loopN (fun rr x => slicesIndexFuncXXXXXXX_b1 N s1 rr x) n2) v10 = some () := hl2;rw [slicesIndexFuncXXXXXXX_b1] at hl2;(conv=>whnf);refine Br.mk (fun hc12 => ?_) (fun hc12 => ?_)
    ·replace hl2 := ite_t hc12 hl2;obtain ⟨x24, hx25, hl2⟩ := obind hl2;(conv=>whnf);refine Side.mk rfl ⟨_, idx_0 hx25, idx_map _ hx25, ?_⟩;cases hl2
    ·replace hl2 := ite_f hc12 hl2;(conv=>whnf);refine ⟨(), trivial, Sub.eq rfl ?_ ?_⟩
     ·(repeat ((conv=>whnf);refine nr ?_));exact trivial
     ·exact trivial
  ·rintro _ _;(conv=>whnf);cases h;exact rfl
theorem slicesContainsFuncXXXXXXC {N : Nat} (hN : N ≤ 1073741824) {s1 : List Int} {r : Bool} (h : slicesContainsFuncXXXXXX N s1 = some r) :
    ACalls Tryz.prog 248 [.d (.list 1 (List.map I s1)), .d (.fn (.func 249) [] [.ref (.agg [.fn (.func 204) [] []])])] [] fun e os => e = .ret (.d (.bool r)) ∧ os = [] := by
  refine acalls_f (fresh := false) tt_ok dr_ok ⟨[], [], [], [], [], 0, []⟩ Tryz.func248 rfl Tryz.call248 rfl ?_
  unfold slicesContainsFuncXXXXXX at h
  obtain ⟨r2, hx2, h⟩ := obind h;(conv=>whnf);refine CallG.pure _ (slicesIndexFuncXXXXXXXC hN hx2) ?_;(conv=>whnf);cases h;exact rfl
theorem rateAllXXC {N : Nat} (hN : N ≤ 1073741824) {l1 : List Int} {r : Bool} (h : rateAllXX N l1 = some r) :
    ACalls Tryz.prog 200 [.d (.list 1 (List.map I l1)), .d (.fn (.func 204) [] [])] [] fun e os => e = .ret (.d (.bool r)) ∧ os = [] := by
  refine acalls_f (fresh := false) tt_ok dr_ok ⟨[3], [], [], [], [], 0, []⟩ Tryz.func200 rfl Tryz.call200 rfl ?_
  unfold rateAllXX at h
  obtain ⟨r2, hx2, h⟩ := obind h;(conv=>whnf);refine CallG.pure _ (slicesContainsFuncXXXXXXC hN hx2) ?_;(conv=>whnf);cases h;exact rfl
theorem rateRisingC {N : Nat} (hN : N ≤ 1073741824) {l1 : List Int} {r : Bool} (h : rateRising N l1 = some r) :
    ACalls Tryz.prog 205 [.d (.list 1 (List.map I l1))] [] fun e os => e = .ret (.d (.bool r)) ∧ os = [] := by
  refine acalls_f (fresh := false) tt_ok dr_ok ⟨[], [], [], [], [1001], 0, []⟩ Tryz.func205 rfl Tryz.call205 rfl ?_
  unfold rateRising at h
  obtain ⟨_, hx1, h⟩ := obind h;(conv=>whnf);refine SeqG.mk Unit (fun y => []) (fun y => []) (fun _ => True) ?_ ?_
  ·(conv=>whnf);refine LnA.mk _ (List.length_map _) ?_;(conv=>whnf);refine LoopG.mk (Nat × Int) (fun y => [(0, .d (.list 1 (List.map I l1))), (5, .d (I y.2)), (6, .i .i64 0)]) (fun y => []) (fun y => loopN (fun rr x => rateRising_b1 N rr x) y.1 y.2 = some ()) (fun y => y.1) (N, (l1.length : Int)) hx1 (Sub.eq rfl ?_ ?_) ?_
   ·(repeat ((conv=>whnf);refine nr ?_));exact trivial
   ·exact trivial
   ·rintro ⟨n2, v10⟩ hl2;obtain ⟨n2, rfl, hl2⟩ := loopN_some hl2;replace hl2 : rateRising_b1 N (loopN (fun rr x => rateRising_b1 N rr x) n2) v10 = some () := hl2;rw [rateRising_b1] at hl2;(conv=>whnf);refine Br.mk (fun hc12 => ?_) (fun hc12 => ?_)
    ·replace hl2 := ite_t hc12 hl2;cases hl2
    ·replace hl2 := ite_f hc12 hl2;(conv=>whnf);refine ⟨(), trivial, Sub.eq rfl ?_ ?_⟩
     ·(repeat ((conv=>whnf);refine nr ?_));exact trivial
     ·exact trivial
  ·rintro _ _;(conv=>whnf);cases h;exact rfl
theorem rateCheckBookC {N : Nat} (hN : N ≤ 1073741824) {b1 : RateBook} {r : Int} (h : rateCheckBook N b1 = some r) :
    ACalls Tryz.prog 165 [.d (.agg [I b1.fLaw.fBase, I b1.fLaw.fPercent, I b1.fLaw.fCap, I b1.fLaw.fLeast, I b1.fLaw.fBlind, .list 1 (List.map I b1.fBowlers), .list 6 (List.map RateSheet.enc b1.fSheets), .list 1 (List.map I b1.fWithdrawn)])] [] fun e os => e = .ret (.d (I r)) ∧ os = [] := by
  refine acalls_f (fresh := false) tt_ok dr_ok ⟨[1], [], [], [], [1, 3, 1005], 0, []⟩ Tryz.func165 rfl Tryz.call165 rfl ?_
  unfold rateCheckBook at h
  obtain ⟨v6, hx13, h⟩ := obind h;(conv=>whnf);refine SeqG.mk Unit (fun y => [(1, .d (.ref (.agg [I b1.fLaw.fBase, I b1.fLaw.fPercent, I b1.fLaw.fCap, I b1.fLaw.fLeast, I b1.fLaw.fBlind, .list 1 (List.map I b1.fBowlers), .list 6 (List.map RateSheet.enc b1.fSheets), .list 1 (List.map I b1.fWithdrawn)]))), (7, .d (.bool v6))]) (fun y => []) (fun _ => True) ?_ ?_
  ·(conv=>whnf);refine LnA.mk _ (List.length_map _) ?_;(conv=>whnf);refine Br.mk (fun hc17 => ?_) (fun hc17 => ?_)
   ·replace hx13 := ite_f hc17 hx13;(conv=>whnf);refine LnA.mk _ (List.length_map _) ?_;(conv=>whnf);refine Br.mk (fun hc18 => ?_) (fun hc18 => ?_)
    ·replace hx13 := ite_f hc18 hx13;(conv=>whnf);refine LnA.mk _ (List.length_map _) ?_;cases hx13;(conv=>whnf);refine ⟨(), trivial, Sub.eq rfl ?_ ?_⟩
     ·(repeat ((conv=>whnf);refine nr ?_));exact trivial
     ·exact trivial
    ·replace hx13 := ite_t hc18 hx13;cases hx13;(conv=>whnf);refine ⟨(), trivial, Sub.eq rfl ?_ ?_⟩
     ·(repeat ((conv=>whnf);refine nr ?_));exact trivial
     ·exact trivial
   ·replace hx13 := ite_t hc17 hx13;cases hx13;(conv=>whnf);refine ⟨(), trivial, Sub.eq rfl ?_ ?_⟩
    ·(repeat ((conv=>whnf);refine nr ?_));exact trivial
    ·exact trivial
  ·rintro _ _;(conv=>whnf);refine Br.mk (fun hc19 => ?_) (fun hc19 => ?_)
   ·replace h := ite_t hc19 h;cases h
   ·replace h := ite_f hc19 h;obtain ⟨v8, hx19, h⟩ := obind h;(conv=>whnf);refine SeqG.mk Unit (fun y => [(1, .d (.ref (.agg [I b1.fLaw.fBase, I b1.fLaw.fPercent, I b1.fLaw.fCap, I b1.fLaw.fLeast, I b1.fLaw.fBlind, .list 1 (List.map I b1.fBowlers), .list 6 (List.map RateSheet.enc b1.fSheets), .list 1 (List.map I b1.fWithdrawn)]))), (24, .d (.bool v8))]) (fun y => []) (fun _ => True) ?_ ?_
    ·obtain ⟨r16, hx20, hx19⟩ := obind hx19;(conv=>whnf);refine CallG.pure _ (rateLawValidC hN hx20) ?_;(conv=>whnf);refine Br.mk (fun hc24 => ?_) (fun hc24 => ?_)
     ·replace hx19 := ite_f hc24 hx19;obtain ⟨r17, hx21, hx19⟩ := obind hx19;(conv=>whnf);refine CallG.pure _ (rateAllC hN hx21) ?_;(conv=>whnf);refine Br.mk (fun hc25 => ?_) (fun hc25 => ?_)
      ·replace hx19 := ite_f hc25 hx19;obtain ⟨r18, hx22, hx19⟩ := obind hx19;(conv=>whnf);refine CallG.pure _ (rateAllXC hN hx22) ?_;(conv=>whnf);refine Br.mk (fun hc26 => ?_) (fun hc26 => ?_)
       ·replace hx19 := ite_f hc26 hx19;obtain ⟨r19, hx23, hx19⟩ := obind hx19;(conv=>whnf);refine CallG.pure _ (rateAllXXC hN hx23) ?_;(conv=>whnf);refine Br.mk (fun hc27 => ?_) (fun hc27 => ?_)
        ·replace hx19 := ite_f hc27 hx19;obtain ⟨r20, hx24, hx19⟩ := obind hx19;(conv=>whnf);refine CallG.pure _ (rateRisingC hN hx24) ?_;cases hx19;(conv=>whnf);refine ⟨(), trivial, Sub.eq rfl ?_ ?_⟩
         ·(repeat ((conv=>whnf);refine nr ?_));exact trivial
         ·exact trivial
        ·replace hx19 := ite_t hc27 hx19;cases hx19;(conv=>whnf);refine ⟨(), trivial, Sub.eq rfl ?_ ?_⟩
         ·(repeat ((conv=>whnf);refine nr ?_));exact trivial
         ·exact trivial
       ·replace hx19 := ite_t hc26 hx19;cases hx19;(conv=>whnf);refine ⟨(), trivial, Sub.eq rfl ?_ ?_⟩
        ·(repeat ((conv=>whnf);refine nr ?_));exact trivial
        ·exact trivial
      ·replace hx19 := ite_t hc25 hx19;cases hx19;(conv=>whnf);refine ⟨(), trivial, Sub.eq rfl ?_ ?_⟩
       ·(repeat ((conv=>whnf);refine nr ?_));exact trivial
       ·exact trivial
     ·replace hx19 := ite_t hc24 hx19;cases hx19;(conv=>whnf);refine ⟨(), trivial, Sub.eq rfl ?_ ?_⟩
      ·(repeat ((conv=>whnf);refine nr ?_));exact trivial
      ·exact trivial
    ·rintro _ _;(conv=>whnf);refine Br.mk (fun hc28 => ?_) (fun hc28 => ?_)
     ·replace h := ite_t hc28 h;cases h
     ·replace h := ite_f hc28 h;obtain ⟨_, hx37, h⟩ := obind h;(conv=>whnf);refine SeqG.mk Unit (fun y => []) (fun y => []) (fun _ => True) ?_ ?_
      ·(conv=>whnf);refine LnA.mk _ (List.length_map _) ?_;(conv=>whnf);refine LoopG.mk (Nat × Int) (fun y => [(1, .d (.ref (.agg [I b1.fLaw.fBase, I b1.fLaw.fPercent, I b1.fLaw.fCap, I b1.fLaw.fLeast, I b1.fLaw.fBlind, .list 1 (List.map I b1.fBowlers), .list 6 (List.map RateSheet.enc b1.fSheets), .list 1 (List.map I b1.fWithdrawn)]))), (56, .d (.list 6 (List.map RateSheet.enc b1.fSheets))), (57, .d (I y.2)), (58, .i .i64 0)]) (fun y => []) (fun y => loopN (fun rr x => rateCheckBook_b1 N b1 rr x) y.1 y.2 = some ()) (fun y => y.1) (N, (b1.fSheets.length : Int)) hx37 (Sub.eq rfl ?_ ?_) ?_
       ·(repeat ((conv=>whnf);refine nr ?_));exact trivial
       ·exact trivial
       ·rintro ⟨n2, v18⟩ hl2;obtain ⟨n2, rfl, hl2⟩ := loopN_some hl2;replace hl2 : rateCheckBook_b1 N b1 (loopN (fun rr x => rateCheckBook_b1 N b1 rr x) n2) v18 = some () := hl2;rw [rateCheckBook_b1] at hl2;(conv=>whnf);refine Br.mk (fun hc40 => ?_) (fun hc40 => ?_)
        ·replace hl2 := ite_t hc40 hl2;obtain ⟨x24, hx49, hl2⟩ := obind hl2;(conv=>whnf);refine Side.mk rfl ⟨_, idx_0 hx49, idx_map _ hx49, ?_⟩;(conv=>whnf);intro b25;(conv=>whnf);refine sr ?_;cases hl2
        ·replace hl2 := ite_f hc40 hl2;(conv=>whnf);refine ⟨(), trivial, Sub.eq rfl ?_ ?_⟩
         ·(repeat ((conv=>whnf);refine nr ?_));exact trivial
         ·exact trivial
      ·rintro _ _;(conv=>whnf);cases h;exact rfl
theorem rateBookReadC {N : Nat} (hN : N ≤ 1073741824) {b1 : RateBook} {r : Int × Int × Int × Int × Int × Int × (List Int) × (List RateSheet) × (List Int) × (List (RateTurn × RateSheet))} (h : rateBookRead N b1 = some r) :
    ACalls Tryz.prog 120 [.d (.agg [I b1.fLaw.fBase, I b1.fLaw.fPercent, I b1.fLaw.fCap, I b1.fLaw.fLeast, I b1.fLaw.fBlind, .list 1 (List.map I b1.fBowlers), .list 6 (List.map RateSheet.enc b1.fSheets), .list 1 (List.map I b1.fWithdrawn)])] [] fun ae os => ∃ y : Nat × Nat, True ∧ ae = .ret (.tup [.ptr 605019 y.1 0, .d (I r.1)]) ∧ os = [(605019, .cells y.1 [.d (I r.2.1), .d (I r.2.2.1), .d (I r.2.2.2.1), .d (I r.2.2.2.2.1), .d (I r.2.2.2.2.2.1), .d (.list 1 (List.map I r.2.2.2.2.2.2.1)), .d (.list 6 (List.map RateSheet.enc r.2.2.2.2.2.2.2.1)), .d (.list 1 (List.map I r.2.2.2.2.2.2.2.2.1)), .mp 605017 y.2]), (605017, .map y.2 (List.map (fun p => (.agg [I p.1.fBowler, I p.1.fWeek], .agg [I p.2.fNumber, I p.2.fBowler, I p.2.fWeek, I p.2.fGames.a0, I p.2.fGames.a1, I p.2.fGames.a2])) r.2.2.2.2.2.2.2.2.2))] := by
  refine acalls_own (fresh := false) tt_ok dr_ok ⟨[1], [], [], [], [1005], 605000, []⟩ Tryz.func120 rfl Tryz.call120 rfl ?_
  unfold rateBookRead at h
  obtain ⟨r4, hx4, h⟩ := obind h;(conv=>whnf);refine CallG.pure _ (rateCheckBookC hN hx4) ?_;(conv=>whnf);refine Br.mk (fun hc2 => ?_) (fun hc2 => ?_)
  ·replace h := ite_t hc2 h;cases h
  ·replace h := ite_f hc2 h;(conv=>whnf);intro b4;(conv=>whnf);intro b5;obtain ⟨_, hx17, h⟩ := obind h;(conv=>whnf);refine SeqG.mk Unit (fun y => [(5, .ptr 605019 b5 0)]) (fun y => [(605019, .cells b5 [.d (I b1.fLaw.fBase), .d (I b1.fLaw.fPercent), .d (I b1.fLaw.fCap), .d (I b1.fLaw.fLeast), .d (I b1.fLaw.fBlind), .d (.list 1 (List.map I b1.fBowlers)), .d (.list 6 (List.map RateSheet.enc b1.fSheets)), .d (.list 1 (List.map I b1.fWithdrawn)), .mp 605017 b4]), (605017, .map b4 (List.map (fun p => (.agg [I p.1.fBowler, I p.1.fWeek], .agg [I p.2.fNumber, I p.2.fBowler, I p.2.fWeek, I p.2.fGames.a0, I p.2.fGames.a1, I p.2.fGames.a2])) (([] : List (RateTurn × RateSheet)))))]) (fun _ => True) ?_ ?_
   ·(conv=>whnf);refine LnA.mk _ (List.length_map _) ?_;(conv=>whnf)
    refine LoopG.mk (Nat × Int) (fun y => [(1, .d (.ref (.agg [I b1.fLaw.fBase, I b1.fLaw.fPercent, I b1.fLaw.fCap, I b1.fLaw.fLeast, I b1.fLaw.fBlind, .list 1 (List.map I b1.fBowlers), .list 6 (List.map RateSheet.enc b1.fSheets), .list 1 (List.map I b1.fWithdrawn)]))), (5, .ptr 605019 b5 0), (21, .d (.list 6 (List.map RateSheet.enc b1.fSheets))), (22, .d (I y.2)), (23, .i .i64 0)]) (fun y => [(605019, .cells b5 [.d (I b1.fLaw.fBase), .d (I b1.fLaw.fPercent), .d (I b1.fLaw.fCap), .d (I b1.fLaw.fLeast), .d (I b1.fLaw.fBlind), .d (.list 1 (List.map I b1.fBowlers)), .d (.list 6 (List.map RateSheet.enc b1.fSheets)), .d (.list 1 (List.map I b1.fWithdrawn)), .mp 605017 b4]), (605017, .map b4 (List.map (fun p => (.agg [I p.1.fBowler, I p.1.fWeek], .agg [I p.2.fNumber, I p.2.fBowler, I p.2.fWeek, I p.2.fGames.a0, I p.2.fGames.a1, I p.2.fGames.a2])) (([] : List (RateTurn × RateSheet)))))]) (fun y => loopN (fun rr x => rateBookRead_b1 N b1 rr x) y.1 y.2 = some ()) (fun y => y.1) (N, (b1.fSheets.length : Int)) hx17 (Sub.eq rfl ?_ ?_) ?_
    ·(repeat ((conv=>whnf);refine nr ?_));exact trivial
    ·(iterate 2 ((conv=>whnf);refine no ?_));exact trivial
    ·rintro ⟨n2, v10⟩ hl2;obtain ⟨n2, rfl, hl2⟩ := loopN_some hl2;replace hl2 : rateBookRead_b1 N b1 (loopN (fun rr x => rateBookRead_b1 N b1 rr x) n2) v10 = some () := hl2;rw [rateBookRead_b1] at hl2;(conv=>whnf);refine Br.mk (fun hc14 => ?_) (fun hc14 => ?_)
     ·replace hl2 := ite_t hc14 hl2;obtain ⟨x24, hx29, hl2⟩ := obind hl2;(conv=>whnf);refine Side.mk rfl ⟨_, idx_0 hx29, idx_map _ hx29, ?_⟩;(conv=>whnf);intro b29;(conv=>whnf);refine sr ?_;cases hl2
     ·replace hl2 := ite_f hc14 hl2;(conv=>whnf);refine ⟨(), trivial, Sub.eq rfl ?_ ?_⟩
      ·(repeat ((conv=>whnf);refine nr ?_));exact trivial
      ·(iterate 2 ((conv=>whnf);refine no ?_));exact trivial
   ·rintro _ _;(conv=>whnf);cases h;exact ⟨(b5, b4), trivial, rfl, inO_at (ren := id) (ai (ai trivial))⟩
theorem rateBookBowlerC {N : Nat} (hN : N ≤ 1073741824) {b1 : RateBook} {n1 : Int} {r : Bool} (h : rateBookBowler N b1 n1 = some r) :
    ACalls Tryz.prog 141 [.d (.agg [I b1.fLaw.fBase, I b1.fLaw.fPercent, I b1.fLaw.fCap, I b1.fLaw.fLeast, I b1.fLaw.fBlind, .list 1 (List.map I b1.fBowlers), .list 6 (List.map RateSheet.enc b1.fSheets), .list 1 (List.map I b1.fWithdrawn)]), .d (I n1)] [] fun e os => e = .ret (.d (.bool r)) ∧ os = [] := by
  refine acalls_f (fresh := false) tt_ok dr_ok ⟨[2], [], [], [], [], 0, []⟩ Tryz.func141 rfl Tryz.call141 rfl ?_
  unfold rateBookBowler at h
  (conv=>whnf);refine LnA.mk _ (List.length_map _) ?_;obtain ⟨r2, hx2, h⟩ := obind h;(conv=>whnf);refine CallG.pure _ (rateWithinC hN hx2) ?_;(conv=>whnf);cases h;exact rfl
theorem rateWeekC {N : Nat} (hN : N ≤ 1073741824) {n1 : Int} {r : Bool} (h : rateWeek N n1 = some r) :
    ACalls Tryz.prog 142 [.d (I n1)] [] fun e os => e = .ret (.d (.bool r)) ∧ os = [] := by
  refine acalls_f (fresh := false) tt_ok dr_ok ⟨[], [], [], [], [], 0, []⟩ Tryz.func142 rfl Tryz.call142 rfl ?_
  unfold rateWeek at h
  obtain ⟨r2, hx2, h⟩ := obind h;(conv=>whnf);refine CallG.pure _ (rateWithinC hN hx2) ?_;(conv=>whnf);cases h;exact rfl
end Go.Proofs.YtiaoloodgildeaaGreatDoor
