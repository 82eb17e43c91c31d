/-
  Walks: what the typed functions compute, the program’s functions return.
-/
import Derived.Test.YtmencjafjcmbaaaWe
import Derived.Test.YtmencjafjcmbaaaWa
namespace Go.Proofs.Ytmencjafjcmbaaa
open Go Go.Abs Go.Kp
set_option maxRecDepth 100000
set_option maxHeartbeats 8000000
set_option linter.all false

theorem slicesContainsFuncXXXC {N : Nat} (hN : N ≤ 1073741824) {f1 : RateBook} {l1 : List Int} {ho1 : Value} {r : Bool} (h : slicesContainsFuncXXX N f1 l1 = some r) :
    ACalls Try.prog 71 [.sl 20 ho1, .d (.fn (.func 72) [] [.ref (.agg [.fn (.func 75) [.agg [I f1.fLaw.fBase, I f1.fLaw.fPercent, I f1.fLaw.fCap, I f1.fLaw.fLeast, I f1.fLaw.fBlind, .list 1 (List.map I f1.fBowlers), .list 6 (List.map RateSheet.enc f1.fSheets), .list 1 (List.map I f1.fWithdrawn)]] []])])] [(20, .arr ho1 3 1 false (List.map I l1))] fun ae os => ∃ y : Unit, True ∧ ae = .ret (.d (.bool r)) ∧ os = [(20, .arr ho1 3 1 false (List.map I l1))] := by
  refine acalls_own (fresh := false) tt_ok dr_ok ⟨[], [], [7], [], [], 10000, []⟩ Try.func71 rfl Try.call71 rfl ?_
  unfold slicesContainsFuncXXX at h
  obtain ⟨r2, hx2, h⟩ := obind h
  conv => whnf
  refine CallG.own (slicesIndexFuncXXXC (ho1 := ho1) hN hx2) id [] _ (fun y => [(20, .arr ho1 3 1 false (List.map I l1))]) (all2_le_refl _) (And.intro rfl trivial) rfl (And.intro rfl trivial) trivial (fun _ => AV.le_refl _) (fun _ => rfl) ?_
  rintro _ _
  conv => whnf
  cases h
  exact ⟨(), trivial, rfl, inO_at (ren := id) (And.intro rfl trivial)⟩

theorem rateAllXXXC {N : Nat} (hN : N ≤ 1073741824) {right1 : RateBook} {l1 : List Int} {ho1 : Value} {r : Bool} (h : rateAllXXX N right1 l1 = some r) :
    ACalls Try.prog 45 [.sl 20 ho1, .d (.fn (.func 75) [.agg [I right1.fLaw.fBase, I right1.fLaw.fPercent, I right1.fLaw.fCap, I right1.fLaw.fLeast, I right1.fLaw.fBlind, .list 1 (List.map I right1.fBowlers), .list 6 (List.map RateSheet.enc right1.fSheets), .list 1 (List.map I right1.fWithdrawn)]] [])] [(20, .arr ho1 3 1 false (List.map I l1))] fun ae os => ∃ y : Unit, True ∧ ae = .ret (.d (.bool r)) ∧ os = [(20, .arr ho1 3 1 false (List.map I l1))] := by
  refine acalls_own (fresh := false) tt_ok dr_ok ⟨[3], [], [7], [], [], 10000, []⟩ Try.func45 rfl Try.call45 rfl ?_
  unfold rateAllXXX at h
  obtain ⟨r2, hx2, h⟩ := obind h
  conv => whnf
  refine CallG.own (slicesContainsFuncXXXC (ho1 := ho1) hN hx2) id [] _ (fun y => [(20, .arr ho1 3 1 false (List.map I l1))]) (all2_le_refl _) (And.intro rfl trivial) rfl (And.intro rfl trivial) trivial (fun _ => AV.le_refl _) (fun _ => rfl) ?_
  rintro _ _
  conv => whnf
  cases h
  exact ⟨(), trivial, rfl, inO_at (ren := id) (And.intro rfl trivial)⟩

theorem rateRisingXC {N : Nat} (hN : N ≤ 1073741824) {l1 : List Int} {ho1 : Value} {r : Bool} (h : rateRisingX N l1 = some r) :
    ACalls Try.prog 50 [.sl 20 ho1] [(20, .arr ho1 3 1 false (List.map I l1))] fun ae os => ∃ y : Unit, True ∧ ae = .ret (.d (.bool r)) ∧ os = [(20, .arr ho1 3 1 false (List.map I l1))] := by
  refine acalls_own (fresh := false) tt_ok dr_ok ⟨[], [], [], [], [4, 1001], 10000, []⟩ Try.func50 rfl Try.call50 rfl ?_
  unfold rateRisingX at h
  conv => whnf
  refine SeqG.mk Unit (fun y => []) (fun y => [(20, .arr ho1 3 1 false (List.map I l1))]) (fun y => rateRisingX_k1 N = some r) ?_ ?_
  ·conv => whnf
   refine Side.mk rfl (LnA.mk _ (List.length_map _) ?_)
   conv => whnf
   refine LoopG.mk (Nat × (Int × Int)) (fun y => [(0, .sl 20 ho1), (5, .d (I y.2.1)), (6, .d (I y.2.2))]) (fun y => [(20, .arr ho1 3 1 false (List.map I l1))]) (fun y => loopN (fun rr x => rateRisingX_b2 N l1 rr x.1 x.2) y.1 y.2 = some r) (fun y => y.1) (N, ((l1.length : Int), 0)) h (Sub.eq rfl ?_ ?_) ?_
   ·repeat ((conv => whnf); refine Need.mk rfl ?_)
    exact trivial
   ·conv => whnf
    refine Need.mk (OLe.refl _) ?_
    exact trivial
   ·rintro ⟨n2, ⟨v23, v24⟩⟩ hl2
    obtain ⟨n2, rfl, hl2⟩ := loopN_some hl2
    replace hl2 : rateRisingX_b2 N l1 (loopN (fun rr x => rateRisingX_b2 N l1 rr x.1 x.2) n2) v23 v24 = some r := hl2
    rw [rateRisingX_b2] at hl2
    conv => whnf
    refine Br.mk (fun hc30 => ?_) (fun hc30 => ?_)
    ·replace hl2 := ite_t hc30 hl2
     obtain ⟨v26, hx42, hl2⟩ := obind hl2
     conv => whnf
     refine SeqG.mk Unit (fun y => [(0, .sl 20 ho1), (5, .d (I v23)), (6, .d (I v24)), (22, .d (.bool v26))]) (fun y => [(20, .arr ho1 3 1 false (List.map I l1))]) (fun _ => True) ?_ ?_
     ·conv => whnf
      refine DrawG.mk (.take 0 (.take 1 (.take 2 (.spl 11 (.take 3 (.take 4 (.take 5 (.take 6 (.take 7 (.take 8 (.take 9 (.take 10 (.take 11 (.take 12 (.take 13 .done))))))))))))))) (by kernel_rfl) ?_
      conv => whnf
      refine Br.mk (fun hc35 => ?_) (fun hc35 => ?_)
      ·replace hx42 := ite_t hc35 hx42
       obtain ⟨x31, hx43, hx42⟩ := obind hx42
       obtain ⟨x32, hx44, hx42⟩ := obind hx42
       conv => whnf
       refine Side.mk ⟨rfl, rfl⟩ (Need.mk (idx_need _ hx43) ?_)
       conv => whnf
       refine Side.mk ⟨rfl, rfl⟩ ⟨_, Int.natCast_nonneg _, idx_el _ hx43, ?_⟩
       conv => whnf
       refine Side.mk ⟨rfl, rfl⟩ (Need.mk (idx_need _ hx44) ?_)
       conv => whnf
       refine Side.mk ⟨rfl, rfl⟩ ⟨_, Int.natCast_nonneg _, idx_el _ hx44, ?_⟩
       cases hx42
       conv => whnf
       refine ⟨(), trivial, Sub.eq rfl ?_ ?_⟩
       ·repeat ((conv => whnf); refine Need.mk rfl ?_)
        exact trivial
       ·conv => whnf
        refine Need.mk (OLe.refl _) ?_
        exact trivial
      ·replace hx42 := ite_f hc35 hx42
       cases hx42
       conv => whnf
       refine ⟨(), trivial, Sub.eq rfl ?_ ?_⟩
       ·repeat ((conv => whnf); refine Need.mk rfl ?_)
        exact trivial
       ·conv => whnf
        refine Need.mk (OLe.refl _) ?_
        exact trivial
     ·rintro _ _
      conv => whnf
      refine Br.mk (fun hc36 => ?_) (fun hc36 => ?_)
      ·replace hl2 := ite_t hc36 hl2
       conv => whnf
       cases hl2
       exact ⟨(), trivial, rfl, inO_at (ren := id) (And.intro rfl trivial)⟩
      ·replace hl2 := ite_f hc36 hl2
       conv => whnf
       refine ⟨(n2, (v23, w64 (v24 + 1))), hl2, Sub.eq rfl ?_ ?_, Nat.lt_succ_self _⟩
       ·repeat ((conv => whnf); refine Need.mk rfl ?_)
        exact trivial
       ·conv => whnf
        refine Need.mk (OLe.refl _) ?_
        exact trivial
    ·replace hl2 := ite_f hc30 hl2
     conv => whnf
     refine ⟨(), hl2, Sub.eq rfl ?_ ?_⟩
     ·repeat ((conv => whnf); refine Need.mk rfl ?_)
      exact trivial
     ·conv => whnf
      refine Need.mk (OLe.refl _) ?_
      exact trivial
  ·clear h
   rintro _ h
   unfold rateRisingX_k1 at h
   conv => whnf
   cases h
   exact ⟨(), trivial, rfl, inO_at (ren := id) (And.intro rfl trivial)⟩

theorem rateBookTeamsC {N : Nat} (hN : N ≤ 1073741824) {b1 : RateBook} {home1 : List Int} {away1 : List Int} {r : Int} (h : rateBookTeams N b1 home1 away1 = some r) :
    ACalls Try.prog 58 [.d (.agg [I b1.fLaw.fBase, I b1.fLaw.fPercent, I b1.fLaw.fCap, I b1.fLaw.fLeast, I b1.fLaw.fBlind, .list 1 (List.map I b1.fBowlers), .list 6 (List.map RateSheet.enc b1.fSheets), .list 1 (List.map I b1.fWithdrawn)]), .d (.list 1 (List.map I home1)), .d (.list 1 (List.map I away1))] [] fun e os => e = .ret (.d (I r)) ∧ os = [] := by
  refine acalls_f (fresh := false) tt_ok dr_ok ⟨[3], [], [34, 38, 40], [], [1, 5], 0, []⟩ Try.func58 rfl Try.call58 rfl ?_
  unfold rateBookTeams at h
  obtain ⟨v2, hx2, h⟩ := obind h
  conv => whnf
  refine SeqG.mk Unit (fun y => [(1, .d (.list 1 (List.map I home1))), (2, .d (.list 1 (List.map I away1))), (3, .d (.ref (.agg [I b1.fLaw.fBase, I b1.fLaw.fPercent, I b1.fLaw.fCap, I b1.fLaw.fLeast, I b1.fLaw.fBlind, .list 1 (List.map I b1.fBowlers), .list 6 (List.map RateSheet.enc b1.fSheets), .list 1 (List.map I b1.fWithdrawn)]))), (16, .d (.bool v2))]) (fun y => []) (fun _ => True) ?_ ?_
  ·conv => whnf
   refine LnA.mk _ (List.length_map _) ?_
   conv => whnf
   refine Br.mk (fun hc5 => ?_) (fun hc5 => ?_)
   ·replace hx2 := ite_f hc5 hx2
    conv => whnf
    refine LnA.mk _ (List.length_map _) ?_
    cases hx2
    conv => whnf
    refine ⟨(), trivial, Sub.eq rfl ?_ ?_⟩
    ·repeat ((conv => whnf); refine Need.mk rfl ?_)
     exact trivial
    ·exact trivial
   ·replace hx2 := ite_t hc5 hx2
    cases hx2
    conv => whnf
    refine ⟨(), trivial, Sub.eq rfl ?_ ?_⟩
    ·repeat ((conv => whnf); refine Need.mk rfl ?_)
     exact trivial
    ·exact trivial
  ·rintro _ _
   conv => whnf
   refine Br.mk (fun hc6 => ?_) (fun hc6 => ?_)
   ·replace h := ite_t hc6 h
    conv => whnf
    cases h
    exact rfl
   ·replace h := ite_f hc6 h
    conv => whnf
    intro hd3
    obtain ⟨r2, hx4, h⟩ := obind h
    conv => whnf
    refine Side.mk rfl ?_
    conv => whnf
    refine CallG.fresh 20 (slicesConcatC hN hx4) ?_
    intro hd4
    obtain ⟨v4, hx9, h⟩ := obind h
    conv => whnf
    refine SeqG.mk Unit (fun y => [(7, .sl 20 hd4), (36, .d (.bool v4))]) (fun y => [(20, .arr hd4 3 1 false (List.map I r2))]) (fun _ => True) ?_ ?_
    ·conv => whnf
     refine LnA.mk _ (List.length_map _) ?_
     conv => whnf
     refine Br.mk (fun hc14 => ?_) (fun hc14 => ?_)
     ·replace hx9 := ite_f hc14 hx9
      conv => whnf
      refine LnA.mk _ (List.length_map _) ?_
      conv => whnf
      refine Br.mk (fun hc15 => ?_) (fun hc15 => ?_)
      ·replace hx9 := ite_f hc15 hx9
       obtain ⟨r6, hx10, hx9⟩ := obind hx9
       conv => whnf
       refine CallG.own (rateAllXXXC (ho1 := hd4) hN hx10) id [(19, .arr hd3 24 1 true (List.map (fun x => .list 1 (List.map I x)) ([home1, away1])))] _ (fun y => [(20, .arr hd4 3 1 false (List.map I r2)), (19, .arr hd3 24 1 true (List.map (fun x => .list 1 (List.map I x)) ([home1, away1])))]) (all2_le_refl _) (And.intro rfl trivial) rfl (And.intro rfl trivial) (And.intro rfl trivial) (fun _ => AV.le_refl _) (fun _ => rfl) ?_
       rintro _ _
       cases hx9
       conv => whnf
       refine ⟨(), trivial, Sub.eq rfl ?_ ?_⟩
       ·repeat ((conv => whnf); refine Need.mk rfl ?_)
        exact trivial
       ·conv => whnf
        refine Need.mk (OLe.refl _) ?_
        exact trivial
      ·replace hx9 := ite_t hc15 hx9
       cases hx9
       conv => whnf
       refine ⟨(), trivial, Sub.eq rfl ?_ ?_⟩
       ·repeat ((conv => whnf); refine Need.mk rfl ?_)
        exact trivial
       ·conv => whnf
        refine Need.mk (OLe.refl _) ?_
        exact trivial
     ·replace hx9 := ite_t hc14 hx9
      cases hx9
      conv => whnf
      refine ⟨(), trivial, Sub.eq rfl ?_ ?_⟩
      ·repeat ((conv => whnf); refine Need.mk rfl ?_)
       exact trivial
      ·conv => whnf
       refine Need.mk (OLe.refl _) ?_
       exact trivial
    ·rintro _ _
     conv => whnf
     refine Br.mk (fun hc16 => ?_) (fun hc16 => ?_)
     ·replace h := ite_t hc16 h
      conv => whnf
      cases h
      exact rfl
     ·replace h := ite_f hc16 h
      obtain ⟨r8, hx12, h⟩ := obind h
      conv => whnf
      refine CallG.own (sortIC (k := 20) (ho := hd4) hN hx12) id [] _ (fun y => [(20, .arr hd4 3 1 false (List.map I r8))]) (all2_le_refl _) (And.intro rfl trivial) rfl (And.intro rfl trivial) trivial (fun _ => AV.le_refl _) (fun _ => rfl) ?_
      rintro _ _
      obtain ⟨r12, hx16, h⟩ := obind h
      conv => whnf
      refine CallG.own (rateRisingXC (ho1 := hd4) hN hx16) id [] _ (fun y => [(20, .arr hd4 3 1 false (List.map I r8))]) (all2_le_refl _) (And.intro rfl trivial) rfl (And.intro rfl trivial) trivial (fun _ => AV.le_refl _) (fun _ => rfl) ?_
      rintro _ _
      conv => whnf
      refine Br.mk (fun hc18 => ?_) (fun hc18 => ?_)
      ·replace h := ite_t hc18 h
       conv => whnf
       cases h
       exact rfl
      ·replace h := ite_f hc18 h
       conv => whnf
       cases h
       exact rfl

theorem rateMatch1C {N : Nat} (hN : N ≤ 1073741824) {team1 : List Int} {a1 : Int} {bo1 : Nat} {r : (List Int)} (h : rateMatch1 N team1 a1 = some r) :
    ACalls Try.prog 59 [.d (.list 1 (List.map I team1)), .ptr 11 bo1 0, .d (.ref (.agg [I a1]))] [(11, .cells bo1 [.d .nilptr])] fun ae os => ∃ y : Unit, True ∧ ae = .ret (.d (.list 1 (List.map I r))) ∧ os = [(11, .cells bo1 [.d .nilptr])] := by
  refine acalls_own (fresh := false) tt_ok dr_ok ⟨[], [], [], [], [1002], 10000, []⟩ Try.func59 rfl Try.call59 rfl ?_
  unfold rateMatch1 at h
  obtain ⟨l2, hx2, h⟩ := obind h
  conv => whnf
  refine Need.mk (mkl_need hN hx2 (by decide)) (Eqv.mk (List.map I l2) (mkl_map _ hx2 rfl) ?_)
  conv => whnf
  intro hd2
  obtain ⟨_, hx15, h⟩ := obind h
  conv => whnf
  refine SeqG.mk Unit (fun y => [(4, .sl 10009 hd2)]) (fun y => [(10009, .arr hd2 3 1 false (List.map I l2)), (11, .cells bo1 [.d .nilptr])]) (fun _ => True) ?_ ?_
  ·conv => whnf
   refine LnA.mk _ (List.length_map _) ?_
   conv => whnf
   refine LoopG.mk (Nat × Int) (fun y => [(1, .ptr 11 bo1 0), (2, .d (.ref (.agg [I a1]))), (4, .sl 10009 hd2), (10, .d (.list 1 (List.map I team1))), (11, .d (I y.2)), (12, .i .i64 0)]) (fun y => [(11, .cells bo1 [.d .nilptr]), (10009, .arr hd2 3 1 false (List.map I l2))]) (fun y => loopN (fun rr x => rateMatch1_b1 N team1 rr x) y.1 y.2 = some ()) (fun y => y.1) (N, (team1.length : Int)) hx15 (Sub.eq rfl ?_ ?_) ?_
   ·repeat ((conv => whnf); refine Need.mk rfl ?_)
    exact trivial
   ·conv => whnf
    refine Need.mk (OLe.refl _) ?_
    conv => whnf
    refine Need.mk (OLe.refl _) ?_
    exact trivial
   ·rintro ⟨n2, v10⟩ hl2
    obtain ⟨n2, rfl, hl2⟩ := loopN_some hl2
    replace hl2 : rateMatch1_b1 N team1 (loopN (fun rr x => rateMatch1_b1 N team1 rr x) n2) v10 = some () := hl2
    rw [rateMatch1_b1] at hl2
    conv => whnf
    refine Br.mk (fun hc12 => ?_) (fun hc12 => ?_)
    ·replace hl2 := ite_t hc12 hl2
     obtain ⟨x24, hx27, hl2⟩ := obind hl2
     conv => whnf
     refine Side.mk rfl ⟨_, idx_0 hx27, idx_map _ hx27, ?_⟩
     conv => whnf
     refine Side.mk rfl ?_
     cases hl2
    ·replace hl2 := ite_f hc12 hl2
     conv => whnf
     refine ⟨(), trivial, Sub.eq rfl ?_ ?_⟩
     ·repeat ((conv => whnf); refine Need.mk rfl ?_)
      exact trivial
     ·conv => whnf
      refine Need.mk (OLe.refl _) ?_
      conv => whnf
      refine Need.mk (OLe.refl _) ?_
      exact trivial
  ·rintro _ _
   obtain ⟨r2, hx30, h⟩ := obind h
   conv => whnf
   refine Side.mk rfl ?_
   conv => whnf
   refine CallG.pure _ (rateSumC hN hx30) ?_
   conv => whnf
   intro hd5
   obtain ⟨l4, hx31, h⟩ := obind h
   conv => whnf
   refine Side.mk ⟨rfl, rfl⟩ ?_
   conv => whnf
   refine Side.mk ⟨rfl, rfl, rfl⟩ (Need.mk (app_need hN hx31 (by decide)) (Eqv.mk (List.map I l4) (app_map _ hx31) ?_))
   conv => whnf
   intro hd6
   conv => whnf
   refine Side.mk rfl ?_
   conv => whnf
   cases h
   exact ⟨(), trivial, rfl, inO_at (ren := id) (And.intro rfl trivial)⟩

theorem rateReadMakesC {N : Nat} (hN : N ≤ 1073741824) {bowler1 : Int} {w1 : Int} {c1 : Int} {c2 : Int} {c3 : Int} {c4 : Int} {c5 : Int} {c6 : List Int} {c7 : List RateSheet} {c8 : List Int} {m1 : List (RateTurn × RateSheet)} {bo1 : Nat} {bo2 : Nat} {r : (Ar3 Int)} (h : rateReadMakes N bowler1 w1 c1 c2 c3 c4 c5 c6 c7 c8 m1 = some r) :
    ACalls Try.prog 60 [.ptr 260019 bo1 0, .d (I bowler1), .d (I w1)] [(260019, .cells bo1 [.d (I c1), .d (I c2), .d (I c3), .d (I c4), .d (I c5), .d (.list 1 (List.map I c6)), .d (.list 6 (List.map RateSheet.enc c7)), .d (.list 1 (List.map I c8)), .mp 260017 bo2]), (260017, .map bo2 (List.map (fun p => (.agg [I p.1.fBowler, I p.1.fWeek], .agg [I p.2.fNumber, I p.2.fBowler, I p.2.fWeek, I p.2.fGames.a0, I p.2.fGames.a1, I p.2.fGames.a2])) m1))] fun ae os => ∃ y : Unit, True ∧ ae = .ret (.d (.agg [I r.a0, I r.a1, I r.a2])) ∧ os = [(260019, .cells bo1 [.d (I c1), .d (I c2), .d (I c3), .d (I c4), .d (I c5), .d (.list 1 (List.map I c6)), .d (.list 6 (List.map RateSheet.enc c7)), .d (.list 1 (List.map I c8)), .mp 260017 bo2]), (260017, .map bo2 (List.map (fun p => (.agg [I p.1.fBowler, I p.1.fWeek], .agg [I p.2.fNumber, I p.2.fBowler, I p.2.fWeek, I p.2.fGames.a0, I p.2.fGames.a1, I p.2.fGames.a2])) m1))] := by
  refine acalls_own (fresh := false) tt_ok dr_ok ⟨[], [], [], [], [1006], 270000, []⟩ Try.func60 rfl Try.call60 rfl ?_
  unfold rateReadMakes at h
  conv => whnf
  intro b2
  conv => whnf
  refine Side.mk rfl ?_
  obtain ⟨⟨v2, is2⟩, hx2, h⟩ := obind h
  conv => whnf
  refine Side.mk rfl (Need.mk rfl (Need.mk (fit_all (fun x : RateTurn => .agg [I x.fBowler, I x.fWeek]) (fun x : RateSheet => .agg [I x.fNumber, I x.fBowler, I x.fWeek, I x.fGames.a0, I x.fGames.a1, I x.fGames.a2]) fun _ => rfl) (LkG.mk (.agg [I v2.fNumber, I v2.fBowler, I v2.fWeek, I v2.fGames.a0, I v2.fGames.a1, I v2.fGames.a2]) is2 (mgt_v (eK := (fun x : RateTurn => .agg [I x.fBowler, I x.fWeek])) (eV := (fun x : RateSheet => .agg [I x.fNumber, I x.fBowler, I x.fWeek, I x.fGames.a0, I x.fGames.a1, I x.fGames.a2])) RateTurn.eqc hx2) (mgt_b (eK := (fun x : RateTurn => .agg [I x.fBowler, I x.fWeek])) (eV := (fun x : RateSheet => .agg [I x.fNumber, I x.fBowler, I x.fWeek, I x.fGames.a0, I x.fGames.a1, I x.fGames.a2])) RateTurn.eqc hx2) ?_)))
  conv => whnf
  intro b4
  conv => whnf
  refine Side.mk rfl ?_
  conv => whnf
  refine LoopG.unr 4 ?_
  obtain ⟨r23, hx32, h⟩ := obind h
  conv => whnf
  refine DrawG.mk (.take 0 (.take 1 (.take 2 (.take 3 (.take 5 (.take 6 (.take 7 (.take 8 (.take 9 (.take 10 (.alt 4 [10, 9, 8, 7, 6, 5, 0] (.take 11 (.take 12 (.take 13 (.alt 14 [] .done .nil)))) .nil))))))))))) (by kernel_rfl) ?_
  conv => whnf
  refine Side.mk rfl ?_
  conv => whnf
  refine Both.mk ?_ trivial
  conv => whnf
  refine CallG.own (rateReadAverageC (bo1 := bo1) (bo2 := bo2) hN hx32) id [(270006, .cells b2 [.d (I 0), .d (I 0), .d (I 0)]), (270007, .cells b4 [.d (I v2.fNumber), .d (I v2.fBowler), .d (I v2.fWeek), .d (I v2.fGames.a0), .d (I v2.fGames.a1), .d (I v2.fGames.a2)])] _ (fun y => [(260019, .cells bo1 [.d (I c1), .d (I c2), .d (I c3), .d (I c4), .d (I c5), .d (.list 1 (List.map I c6)), .d (.list 6 (List.map RateSheet.enc c7)), .d (.list 1 (List.map I c8)), .mp 260017 bo2]), (260017, .map bo2 (List.map (fun p => (.agg [I p.1.fBowler, I p.1.fWeek], .agg [I p.2.fNumber, I p.2.fBowler, I p.2.fWeek, I p.2.fGames.a0, I p.2.fGames.a1, I p.2.fGames.a2])) m1)), (270006, .cells b2 [.d (I 0), .d (I 0), .d (I 0)]), (270007, .cells b4 [.d (I v2.fNumber), .d (I v2.fBowler), .d (I v2.fWeek), .d (I v2.fGames.a0), .d (I v2.fGames.a1), .d (I v2.fGames.a2)])]) (all2_le_refl _) (And.intro rfl (And.intro rfl trivial)) rfl (And.intro rfl (And.intro rfl trivial)) (And.intro rfl (And.intro rfl trivial)) (fun _ => AV.le_refl _) (fun _ => rfl) ?_
  rintro _ _
  conv => whnf
  refine Side.mk rfl ?_
  conv => whnf
  refine Need.mk (AV.le_refl _) ?_
  conv => whnf
  refine Need.mk (AV.le_refl _) ?_
  conv => whnf
  refine Need.mk (AV.le_refl _) ?_
  conv => whnf
  refine Need.mk (AV.le_refl _) ?_
  conv => whnf
  refine Need.mk (AV.le_refl _) ?_
  conv => whnf
  refine Need.mk (AV.le_refl _) ?_
  conv => whnf
  refine Need.mk (AV.le_refl _) ?_
  conv => whnf
  refine IxG.mk 0 rfl (by decide) ?_
  conv => whnf
  refine Both.mk ?_ trivial
  conv => whnf
  refine Side.mk rfl ?_
  obtain ⟨c16, hx33, h⟩ := obind h
  conv => whnf
  refine SeqG.mk Unit (fun y => [(0, .ptr 260019 bo1 0), (1, .d (I bowler1)), (2, .d (I w1)), (6, .ptr 270006 b2 0), (7, .ptr 270007 b4 0), (8, .d (.bool is2)), (9, .i .i64 0), (21, .i .i64 0)]) (fun y => [(260019, .cells bo1 [.d (I c1), .d (I c2), .d (I c3), .d (I c4), .d (I c5), .d (.list 1 (List.map I c6)), .d (.list 6 (List.map RateSheet.enc c7)), .d (.list 1 (List.map I c8)), .mp 260017 bo2]), (270006, .cells b2 [.d (I c16.a0), .d (I c16.a1), .d (I c16.a2)]), (270007, .cells b4 [.d (I v2.fNumber), .d (I v2.fBowler), .d (I v2.fWeek), .d (I v2.fGames.a0), .d (I v2.fGames.a1), .d (I v2.fGames.a2)]), (260017, .map bo2 (List.map (fun p => (.agg [I p.1.fBowler, I p.1.fWeek], .agg [I p.2.fNumber, I p.2.fBowler, I p.2.fWeek, I p.2.fGames.a0, I p.2.fGames.a1, I p.2.fGames.a2])) m1))]) (fun _ => True) ?_ ?_
  ·conv => whnf
   refine Br.mk (fun hc16 => ?_) (fun hc16 => ?_)
   ·replace hx33 := ite_t hc16 hx33
    conv => whnf
    refine IxG.mk 0 rfl (by decide) ?_
    conv => whnf
    refine Side.mk rfl ?_
    conv => whnf
    refine IxG.mk 0 rfl (by decide) ?_
    conv => whnf
    refine Side.mk rfl ?_
    cases hx33
    conv => whnf
    refine ⟨(), trivial, Sub.eq rfl ?_ ?_⟩
    ·repeat ((conv => whnf); refine Need.mk rfl ?_)
     exact trivial
    ·conv => whnf
     refine Need.mk (OLe.refl _) ?_
     conv => whnf
     refine Need.mk (OLe.refl _) ?_
     conv => whnf
     refine Need.mk (OLe.refl _) ?_
     conv => whnf
     refine Need.mk (OLe.refl _) ?_
     exact trivial
   ·replace hx33 := ite_f hc16 hx33
    cases hx33
    conv => whnf
    refine ⟨(), trivial, Sub.eq rfl ?_ ?_⟩
    ·repeat ((conv => whnf); refine Need.mk rfl ?_)
     exact trivial
    ·conv => whnf
     refine Need.mk (OLe.refl _) ?_
     conv => whnf
     refine Need.mk (OLe.refl _) ?_
     conv => whnf
     refine Need.mk (OLe.refl _) ?_
     conv => whnf
     refine Need.mk (OLe.refl _) ?_
     exact trivial
  ·rintro _ _
   obtain ⟨r24, hx34, h⟩ := obind h
   conv => whnf
   refine DrawG.mk (.take 0 (.take 1 (.take 2 (.take 3 (.take 4 (.take 5 (.alt 6 [2, 1, 0] (.take 7 (.take 8 (.alt 9 [] .done .nil))) .nil))))))) (by kernel_rfl) ?_
   conv => whnf
   refine IxG.mk 0 rfl (by decide) ?_
   conv => whnf
   refine Side.mk rfl ?_
   conv => whnf
   refine Both.mk ?_ trivial
   conv => whnf
   refine CallG.own (rateReadHandicapC (bo1 := bo1) (bo2 := bo2) hN hx34) id [(270006, .cells b2 [.d (I c16.a0), .d (I c16.a1), .d (I c16.a2)]), (270007, .cells b4 [.d (I v2.fNumber), .d (I v2.fBowler), .d (I v2.fWeek), .d (I v2.fGames.a0), .d (I v2.fGames.a1), .d (I v2.fGames.a2)])] _ (fun y => [(260019, .cells bo1 [.d (I c1), .d (I c2), .d (I c3), .d (I c4), .d (I c5), .d (.list 1 (List.map I c6)), .d (.list 6 (List.map RateSheet.enc c7)), .d (.list 1 (List.map I c8)), .mp 260017 bo2]), (260017, .map bo2 (List.map (fun p => (.agg [I p.1.fBowler, I p.1.fWeek], .agg [I p.2.fNumber, I p.2.fBowler, I p.2.fWeek, I p.2.fGames.a0, I p.2.fGames.a1, I p.2.fGames.a2])) m1)), (270006, .cells b2 [.d (I c16.a0), .d (I c16.a1), .d (I c16.a2)]), (270007, .cells b4 [.d (I v2.fNumber), .d (I v2.fBowler), .d (I v2.fWeek), .d (I v2.fGames.a0), .d (I v2.fGames.a1), .d (I v2.fGames.a2)])]) (all2_le_refl _) (And.intro rfl (And.intro rfl trivial)) rfl (And.intro rfl (And.intro rfl trivial)) (And.intro rfl (And.intro rfl trivial)) (fun _ => AV.le_refl _) (fun _ => rfl) ?_
   rintro _ _
   conv => whnf
   refine Side.mk rfl ?_
   conv => whnf
   refine Need.mk (AV.le_refl _) ?_
   conv => whnf
   refine IxG.mk 0 rfl (by decide) ?_
   conv => whnf
   refine Need.mk (AV.le_refl _) ?_
   conv => whnf
   refine Need.mk (AV.le_refl _) ?_
   conv => whnf
   refine IxG.mk 0 rfl (by decide) ?_
   conv => whnf
   refine Both.mk ?_ trivial
   conv => whnf
   refine Side.mk rfl ?_
   obtain ⟨r29, hx40, h⟩ := obind h
   conv => whnf
   refine DrawG.mk (.take 0 (.take 1 (.take 2 (.take 3 (.take 5 (.take 6 (.take 7 (.take 8 (.take 9 (.take 10 (.alt 4 [10, 9, 8, 7, 6, 5, 0] (.take 11 (.take 12 (.take 13 (.alt 14 [] .done .nil)))) .nil))))))))))) (by kernel_rfl) ?_
   conv => whnf
   refine Side.mk rfl ?_
   conv => whnf
   refine Both.mk ?_ trivial
   conv => whnf
   refine CallG.own (rateReadAverageC (bo1 := bo1) (bo2 := bo2) hN hx40) id [(270006, .cells b2 [.d (I (w64 (c16.a0 + r24))), .d (I c16.a1), .d (I c16.a2)]), (270007, .cells b4 [.d (I v2.fNumber), .d (I v2.fBowler), .d (I v2.fWeek), .d (I v2.fGames.a0), .d (I v2.fGames.a1), .d (I v2.fGames.a2)])] _ (fun y => [(260019, .cells bo1 [.d (I c1), .d (I c2), .d (I c3), .d (I c4), .d (I c5), .d (.list 1 (List.map I c6)), .d (.list 6 (List.map RateSheet.enc c7)), .d (.list 1 (List.map I c8)), .mp 260017 bo2]), (260017, .map bo2 (List.map (fun p => (.agg [I p.1.fBowler, I p.1.fWeek], .agg [I p.2.fNumber, I p.2.fBowler, I p.2.fWeek, I p.2.fGames.a0, I p.2.fGames.a1, I p.2.fGames.a2])) m1)), (270006, .cells b2 [.d (I (w64 (c16.a0 + r24))), .d (I c16.a1), .d (I c16.a2)]), (270007, .cells b4 [.d (I v2.fNumber), .d (I v2.fBowler), .d (I v2.fWeek), .d (I v2.fGames.a0), .d (I v2.fGames.a1), .d (I v2.fGames.a2)])]) (all2_le_refl _) (And.intro rfl (And.intro rfl trivial)) rfl (And.intro rfl (And.intro rfl trivial)) (And.intro rfl (And.intro rfl trivial)) (fun _ => AV.le_refl _) (fun _ => rfl) ?_
   rintro _ _
   conv => whnf
   refine Side.mk rfl ?_
   conv => whnf
   refine Need.mk (AV.le_refl _) ?_
   conv => whnf
   refine Need.mk (AV.le_refl _) ?_
   conv => whnf
   refine Need.mk (AV.le_refl _) ?_
   conv => whnf
   refine Need.mk (AV.le_refl _) ?_
   conv => whnf
   refine Need.mk (AV.le_refl _) ?_
   conv => whnf
   refine Need.mk (AV.le_refl _) ?_
   conv => whnf
   refine Need.mk (AV.le_refl _) ?_
   conv => whnf
   refine IxG.mk 1 rfl (by decide) ?_
   conv => whnf
   refine Both.mk ?_ trivial
   conv => whnf
   refine Side.mk rfl ?_
   obtain ⟨c18, hx41, h⟩ := obind h
   conv => whnf
   refine SeqG.mk Unit (fun y => [(0, .ptr 260019 bo1 0), (1, .d (I bowler1)), (2, .d (I w1)), (6, .ptr 270006 b2 0), (7, .ptr 270007 b4 0), (8, .d (.bool is2)), (9, .i .i64 1), (21, .i .i64 1)]) (fun y => [(260019, .cells bo1 [.d (I c1), .d (I c2), .d (I c3), .d (I c4), .d (I c5), .d (.list 1 (List.map I c6)), .d (.list 6 (List.map RateSheet.enc c7)), .d (.list 1 (List.map I c8)), .mp 260017 bo2]), (270006, .cells b2 [.d (I c18.a0), .d (I c18.a1), .d (I c18.a2)]), (270007, .cells b4 [.d (I v2.fNumber), .d (I v2.fBowler), .d (I v2.fWeek), .d (I v2.fGames.a0), .d (I v2.fGames.a1), .d (I v2.fGames.a2)]), (260017, .map bo2 (List.map (fun p => (.agg [I p.1.fBowler, I p.1.fWeek], .agg [I p.2.fNumber, I p.2.fBowler, I p.2.fWeek, I p.2.fGames.a0, I p.2.fGames.a1, I p.2.fGames.a2])) m1))]) (fun _ => True) ?_ ?_
   ·conv => whnf
    refine Br.mk (fun hc20 => ?_) (fun hc20 => ?_)
    ·replace hx41 := ite_t hc20 hx41
     conv => whnf
     refine IxG.mk 1 rfl (by decide) ?_
     conv => whnf
     refine Side.mk rfl ?_
     conv => whnf
     refine IxG.mk 1 rfl (by decide) ?_
     conv => whnf
     refine Side.mk rfl ?_
     cases hx41
     conv => whnf
     refine ⟨(), trivial, Sub.eq rfl ?_ ?_⟩
     ·repeat ((conv => whnf); refine Need.mk rfl ?_)
      exact trivial
     ·conv => whnf
      refine Need.mk (OLe.refl _) ?_
      conv => whnf
      refine Need.mk (OLe.refl _) ?_
      conv => whnf
      refine Need.mk (OLe.refl _) ?_
      conv => whnf
      refine Need.mk (OLe.refl _) ?_
      exact trivial
    ·replace hx41 := ite_f hc20 hx41
     cases hx41
     conv => whnf
     refine ⟨(), trivial, Sub.eq rfl ?_ ?_⟩
     ·repeat ((conv => whnf); refine Need.mk rfl ?_)
      exact trivial
     ·conv => whnf
      refine Need.mk (OLe.refl _) ?_
      conv => whnf
      refine Need.mk (OLe.refl _) ?_
      conv => whnf
      refine Need.mk (OLe.refl _) ?_
      conv => whnf
      refine Need.mk (OLe.refl _) ?_
      exact trivial
   ·rintro _ _
    obtain ⟨r30, hx42, h⟩ := obind h
    conv => whnf
    refine DrawG.mk (.take 0 (.take 1 (.take 2 (.take 3 (.take 4 (.take 5 (.alt 6 [2, 1, 0] (.take 7 (.take 8 (.alt 9 [] .done .nil))) .nil))))))) (by kernel_rfl) ?_
    conv => whnf
    refine IxG.mk 1 rfl (by decide) ?_
    conv => whnf
    refine Side.mk rfl ?_
    conv => whnf
    refine Both.mk ?_ trivial
    conv => whnf
    refine CallG.own (rateReadHandicapC (bo1 := bo1) (bo2 := bo2) hN hx42) id [(270006, .cells b2 [.d (I c18.a0), .d (I c18.a1), .d (I c18.a2)]), (270007, .cells b4 [.d (I v2.fNumber), .d (I v2.fBowler), .d (I v2.fWeek), .d (I v2.fGames.a0), .d (I v2.fGames.a1), .d (I v2.fGames.a2)])] _ (fun y => [(260019, .cells bo1 [.d (I c1), .d (I c2), .d (I c3), .d (I c4), .d (I c5), .d (.list 1 (List.map I c6)), .d (.list 6 (List.map RateSheet.enc c7)), .d (.list 1 (List.map I c8)), .mp 260017 bo2]), (260017, .map bo2 (List.map (fun p => (.agg [I p.1.fBowler, I p.1.fWeek], .agg [I p.2.fNumber, I p.2.fBowler, I p.2.fWeek, I p.2.fGames.a0, I p.2.fGames.a1, I p.2.fGames.a2])) m1)), (270006, .cells b2 [.d (I c18.a0), .d (I c18.a1), .d (I c18.a2)]), (270007, .cells b4 [.d (I v2.fNumber), .d (I v2.fBowler), .d (I v2.fWeek), .d (I v2.fGames.a0), .d (I v2.fGames.a1), .d (I v2.fGames.a2)])]) (all2_le_refl _) (And.intro rfl (And.intro rfl trivial)) rfl (And.intro rfl (And.intro rfl trivial)) (And.intro rfl (And.intro rfl trivial)) (fun _ => AV.le_refl _) (fun _ => rfl) ?_
    rintro _ _
    conv => whnf
    refine Side.mk rfl ?_
    conv => whnf
    refine Need.mk (AV.le_refl _) ?_
    conv => whnf
    refine IxG.mk 1 rfl (by decide) ?_
    conv => whnf
    refine Need.mk (AV.le_refl _) ?_
    conv => whnf
    refine Need.mk (AV.le_refl _) ?_
    conv => whnf
    refine IxG.mk 1 rfl (by decide) ?_
    conv => whnf
    refine Both.mk ?_ trivial
    conv => whnf
    refine Side.mk rfl ?_
    obtain ⟨r35, hx48, h⟩ := obind h
    conv => whnf
    refine DrawG.mk (.take 0 (.take 1 (.take 2 (.take 3 (.take 5 (.take 6 (.take 7 (.take 8 (.take 9 (.take 10 (.alt 4 [10, 9, 8, 7, 6, 5, 0] (.take 11 (.take 12 (.take 13 (.alt 14 [] .done .nil)))) .nil))))))))))) (by kernel_rfl) ?_
    conv => whnf
    refine Side.mk rfl ?_
    conv => whnf
    refine Both.mk ?_ trivial
    conv => whnf
    refine CallG.own (rateReadAverageC (bo1 := bo1) (bo2 := bo2) hN hx48) id [(270006, .cells b2 [.d (I c18.a0), .d (I (w64 (c18.a1 + r30))), .d (I c18.a2)]), (270007, .cells b4 [.d (I v2.fNumber), .d (I v2.fBowler), .d (I v2.fWeek), .d (I v2.fGames.a0), .d (I v2.fGames.a1), .d (I v2.fGames.a2)])] _ (fun y => [(260019, .cells bo1 [.d (I c1), .d (I c2), .d (I c3), .d (I c4), .d (I c5), .d (.list 1 (List.map I c6)), .d (.list 6 (List.map RateSheet.enc c7)), .d (.list 1 (List.map I c8)), .mp 260017 bo2]), (260017, .map bo2 (List.map (fun p => (.agg [I p.1.fBowler, I p.1.fWeek], .agg [I p.2.fNumber, I p.2.fBowler, I p.2.fWeek, I p.2.fGames.a0, I p.2.fGames.a1, I p.2.fGames.a2])) m1)), (270006, .cells b2 [.d (I c18.a0), .d (I (w64 (c18.a1 + r30))), .d (I c18.a2)]), (270007, .cells b4 [.d (I v2.fNumber), .d (I v2.fBowler), .d (I v2.fWeek), .d (I v2.fGames.a0), .d (I v2.fGames.a1), .d (I v2.fGames.a2)])]) (all2_le_refl _) (And.intro rfl (And.intro rfl trivial)) rfl (And.intro rfl (And.intro rfl trivial)) (And.intro rfl (And.intro rfl trivial)) (fun _ => AV.le_refl _) (fun _ => rfl) ?_
    rintro _ _
    conv => whnf
    refine Side.mk rfl ?_
    conv => whnf
    refine Need.mk (AV.le_refl _) ?_
    conv => whnf
    refine Need.mk (AV.le_refl _) ?_
    conv => whnf
    refine Need.mk (AV.le_refl _) ?_
    conv => whnf
    refine Need.mk (AV.le_refl _) ?_
    conv => whnf
    refine Need.mk (AV.le_refl _) ?_
    conv => whnf
    refine Need.mk (AV.le_refl _) ?_
    conv => whnf
    refine Need.mk (AV.le_refl _) ?_
    conv => whnf
    refine IxG.mk 2 rfl (by decide) ?_
    conv => whnf
    refine Both.mk ?_ trivial
    conv => whnf
    refine Side.mk rfl ?_
    obtain ⟨c20, hx49, h⟩ := obind h
    conv => whnf
    refine SeqG.mk Unit (fun y => [(0, .ptr 260019 bo1 0), (1, .d (I bowler1)), (2, .d (I w1)), (6, .ptr 270006 b2 0), (7, .ptr 270007 b4 0), (8, .d (.bool is2)), (9, .i .i64 2), (21, .i .i64 2)]) (fun y => [(260019, .cells bo1 [.d (I c1), .d (I c2), .d (I c3), .d (I c4), .d (I c5), .d (.list 1 (List.map I c6)), .d (.list 6 (List.map RateSheet.enc c7)), .d (.list 1 (List.map I c8)), .mp 260017 bo2]), (270006, .cells b2 [.d (I c20.a0), .d (I c20.a1), .d (I c20.a2)]), (270007, .cells b4 [.d (I v2.fNumber), .d (I v2.fBowler), .d (I v2.fWeek), .d (I v2.fGames.a0), .d (I v2.fGames.a1), .d (I v2.fGames.a2)]), (260017, .map bo2 (List.map (fun p => (.agg [I p.1.fBowler, I p.1.fWeek], .agg [I p.2.fNumber, I p.2.fBowler, I p.2.fWeek, I p.2.fGames.a0, I p.2.fGames.a1, I p.2.fGames.a2])) m1))]) (fun _ => True) ?_ ?_
    ·conv => whnf
     refine Br.mk (fun hc24 => ?_) (fun hc24 => ?_)
     ·replace hx49 := ite_t hc24 hx49
      conv => whnf
      refine IxG.mk 2 rfl (by decide) ?_
      conv => whnf
      refine Side.mk rfl ?_
      conv => whnf
      refine IxG.mk 2 rfl (by decide) ?_
      conv => whnf
      refine Side.mk rfl ?_
      cases hx49
      conv => whnf
      refine ⟨(), trivial, Sub.eq rfl ?_ ?_⟩
      ·repeat ((conv => whnf); refine Need.mk rfl ?_)
       exact trivial
      ·conv => whnf
       refine Need.mk (OLe.refl _) ?_
       conv => whnf
       refine Need.mk (OLe.refl _) ?_
       conv => whnf
       refine Need.mk (OLe.refl _) ?_
       conv => whnf
       refine Need.mk (OLe.refl _) ?_
       exact trivial
     ·replace hx49 := ite_f hc24 hx49
      cases hx49
      conv => whnf
      refine ⟨(), trivial, Sub.eq rfl ?_ ?_⟩
      ·repeat ((conv => whnf); refine Need.mk rfl ?_)
       exact trivial
      ·conv => whnf
       refine Need.mk (OLe.refl _) ?_
       conv => whnf
       refine Need.mk (OLe.refl _) ?_
       conv => whnf
       refine Need.mk (OLe.refl _) ?_
       conv => whnf
       refine Need.mk (OLe.refl _) ?_
       exact trivial
    ·rintro _ _
     obtain ⟨r36, hx50, h⟩ := obind h
     conv => whnf
     refine DrawG.mk (.take 0 (.take 1 (.take 2 (.take 3 (.take 4 (.take 5 (.alt 6 [2, 1, 0] (.take 7 (.take 8 (.alt 9 [] .done .nil))) .nil))))))) (by kernel_rfl) ?_
     conv => whnf
     refine IxG.mk 2 rfl (by decide) ?_
     conv => whnf
     refine Side.mk rfl ?_
     conv => whnf
     refine Both.mk ?_ trivial
     conv => whnf
     refine CallG.own (rateReadHandicapC (bo1 := bo1) (bo2 := bo2) hN hx50) id [(270006, .cells b2 [.d (I c20.a0), .d (I c20.a1), .d (I c20.a2)]), (270007, .cells b4 [.d (I v2.fNumber), .d (I v2.fBowler), .d (I v2.fWeek), .d (I v2.fGames.a0), .d (I v2.fGames.a1), .d (I v2.fGames.a2)])] _ (fun y => [(260019, .cells bo1 [.d (I c1), .d (I c2), .d (I c3), .d (I c4), .d (I c5), .d (.list 1 (List.map I c6)), .d (.list 6 (List.map RateSheet.enc c7)), .d (.list 1 (List.map I c8)), .mp 260017 bo2]), (260017, .map bo2 (List.map (fun p => (.agg [I p.1.fBowler, I p.1.fWeek], .agg [I p.2.fNumber, I p.2.fBowler, I p.2.fWeek, I p.2.fGames.a0, I p.2.fGames.a1, I p.2.fGames.a2])) m1)), (270006, .cells b2 [.d (I c20.a0), .d (I c20.a1), .d (I c20.a2)]), (270007, .cells b4 [.d (I v2.fNumber), .d (I v2.fBowler), .d (I v2.fWeek), .d (I v2.fGames.a0), .d (I v2.fGames.a1), .d (I v2.fGames.a2)])]) (all2_le_refl _) (And.intro rfl (And.intro rfl trivial)) rfl (And.intro rfl (And.intro rfl trivial)) (And.intro rfl (And.intro rfl trivial)) (fun _ => AV.le_refl _) (fun _ => rfl) ?_
     rintro _ _
     conv => whnf
     refine Side.mk rfl ?_
     conv => whnf
     refine Need.mk (AV.le_refl _) ?_
     conv => whnf
     refine IxG.mk 2 rfl (by decide) ?_
     conv => whnf
     refine Need.mk (AV.le_refl _) ?_
     conv => whnf
     refine Need.mk (AV.le_refl _) ?_
     conv => whnf
     refine IxG.mk 2 rfl (by decide) ?_
     conv => whnf
     refine Both.mk ?_ trivial
     conv => whnf
     refine Side.mk rfl ?_
     conv => whnf
     refine Side.mk rfl ?_
     conv => whnf
     refine Side.mk rfl ?_
     conv => whnf
     refine Side.mk rfl ?_
     conv => whnf
     cases h
     exact ⟨(), trivial, rfl, inO_at (ren := id) (And.intro rfl (And.intro rfl trivial))⟩

theorem rateMatch1XC {N : Nat} (hN : N ≤ 1073741824) {team1 : List Int} {a1 : Int} {c1 : Int} {c2 : Int} {c3 : Int} {c4 : Int} {c5 : Int} {c6 : List Int} {c7 : List RateSheet} {c8 : List Int} {m1 : List (RateTurn × RateSheet)} {bo1 : Nat} {bo2 : Nat} {bo3 : Nat} {r : (List Int)} (h : rateMatch1X N team1 a1 c1 c2 c3 c4 c5 c6 c7 c8 m1 = some r) :
    ACalls Try.prog 59 [.d (.list 1 (List.map I team1)), .ptr 11 bo1 0, .d (.ref (.agg [I a1]))] [(11, .cells bo1 [.ptr 260019 bo2 0]), (260019, .cells bo2 [.d (I c1), .d (I c2), .d (I c3), .d (I c4), .d (I c5), .d (.list 1 (List.map I c6)), .d (.list 6 (List.map RateSheet.enc c7)), .d (.list 1 (List.map I c8)), .mp 260017 bo3]), (260017, .map bo3 (List.map (fun p => (.agg [I p.1.fBowler, I p.1.fWeek], .agg [I p.2.fNumber, I p.2.fBowler, I p.2.fWeek, I p.2.fGames.a0, I p.2.fGames.a1, I p.2.fGames.a2])) m1))] fun ae os => ∃ y : Unit, True ∧ ae = .ret (.d (.list 1 (List.map I r))) ∧ os = [(11, .cells bo1 [.ptr 260019 bo2 0]), (260019, .cells bo2 [.d (I c1), .d (I c2), .d (I c3), .d (I c4), .d (I c5), .d (.list 1 (List.map I c6)), .d (.list 6 (List.map RateSheet.enc c7)), .d (.list 1 (List.map I c8)), .mp 260017 bo3]), (260017, .map bo3 (List.map (fun p => (.agg [I p.1.fBowler, I p.1.fWeek], .agg [I p.2.fNumber, I p.2.fBowler, I p.2.fWeek, I p.2.fGames.a0, I p.2.fGames.a1, I p.2.fGames.a2])) m1))] := by
  refine acalls_own (fresh := false) tt_ok dr_ok ⟨[], [], [], [], [1002], 270000, []⟩ Try.func59 rfl Try.call59 rfl ?_
  unfold rateMatch1X at h
  obtain ⟨l2, hx2, h⟩ := obind h
  conv => whnf
  refine Need.mk (mkl_need hN hx2 (by decide)) (Eqv.mk (List.map I l2) (mkl_map _ hx2 rfl) ?_)
  conv => whnf
  intro hd2
  obtain ⟨l7, hx63, h⟩ := obind h
  conv => whnf
  refine SeqG.mk Unit (fun y => [(4, .sl 270009 hd2)]) (fun y => [(270009, .arr hd2 3 1 false (List.map I l7)), (11, .cells bo1 [.ptr 260019 bo2 0]), (260019, .cells bo2 [.d (I c1), .d (I c2), .d (I c3), .d (I c4), .d (I c5), .d (.list 1 (List.map I c6)), .d (.list 6 (List.map RateSheet.enc c7)), .d (.list 1 (List.map I c8)), .mp 260017 bo3]), (260017, .map bo3 (List.map (fun p => (.agg [I p.1.fBowler, I p.1.fWeek], .agg [I p.2.fNumber, I p.2.fBowler, I p.2.fWeek, I p.2.fGames.a0, I p.2.fGames.a1, I p.2.fGames.a2])) m1))]) (fun _ => True) ?_ ?_
  ·conv => whnf
   refine LnA.mk _ (List.length_map _) ?_
   conv => whnf
   refine LoopG.mk (Nat × (Int × Int × (List Int))) (fun y => [(1, .ptr 11 bo1 0), (2, .d (.ref (.agg [I a1]))), (4, .sl 270009 hd2), (10, .d (.list 1 (List.map I team1))), (11, .d (I y.2.1)), (12, .d (I y.2.2.1))]) (fun y => [(11, .cells bo1 [.ptr 260019 bo2 0]), (270009, .arr hd2 3 1 false (List.map I y.2.2.2)), (260019, .cells bo2 [.d (I c1), .d (I c2), .d (I c3), .d (I c4), .d (I c5), .d (.list 1 (List.map I c6)), .d (.list 6 (List.map RateSheet.enc c7)), .d (.list 1 (List.map I c8)), .mp 260017 bo3]), (260017, .map bo3 (List.map (fun p => (.agg [I p.1.fBowler, I p.1.fWeek], .agg [I p.2.fNumber, I p.2.fBowler, I p.2.fWeek, I p.2.fGames.a0, I p.2.fGames.a1, I p.2.fGames.a2])) m1))]) (fun y => loopN (fun rr x => rateMatch1X_b1 N team1 a1 c1 c2 c3 c4 c5 c6 c7 c8 m1 rr x.1 x.2.1 x.2.2) y.1 y.2 = some l7) (fun y => y.1) (N, ((team1.length : Int), 0, l2)) hx63 (Sub.eq rfl ?_ ?_) ?_
   ·repeat ((conv => whnf); refine Need.mk rfl ?_)
    exact trivial
   ·conv => whnf
    refine Need.mk (OLe.refl _) ?_
    conv => whnf
    refine Need.mk (OLe.refl _) ?_
    conv => whnf
    refine Need.mk (OLe.refl _) ?_
    conv => whnf
    refine Need.mk (OLe.refl _) ?_
    exact trivial
   ·rintro ⟨n2, ⟨v17, v18, l11⟩⟩ hl2
    obtain ⟨n2, rfl, hl2⟩ := loopN_some hl2
    replace hl2 : rateMatch1X_b1 N team1 a1 c1 c2 c3 c4 c5 c6 c7 c8 m1 (loopN (fun rr x => rateMatch1X_b1 N team1 a1 c1 c2 c3 c4 c5 c6 c7 c8 m1 rr x.1 x.2.1 x.2.2) n2) v17 v18 l11 = some l7 := hl2
    rw [rateMatch1X_b1] at hl2
    conv => whnf
    refine Br.mk (fun hc12 => ?_) (fun hc12 => ?_)
    ·replace hl2 := ite_t hc12 hl2
     obtain ⟨x90, hx115, hl2⟩ := obind hl2
     conv => whnf
     refine Side.mk rfl ⟨_, idx_0 hx115, idx_map _ hx115, ?_⟩
     conv => whnf
     refine Side.mk rfl ?_
     obtain ⟨r24, hx117, hl2⟩ := obind hl2
     conv => whnf
     refine CallG.own (rateReadMakesC (bo1 := bo2) (bo2 := bo3) hN hx117) id [(11, .cells bo1 [.ptr 260019 bo2 0]), (270009, .arr hd2 3 1 false (List.map I l11))] _ (fun y => [(260019, .cells bo2 [.d (I c1), .d (I c2), .d (I c3), .d (I c4), .d (I c5), .d (.list 1 (List.map I c6)), .d (.list 6 (List.map RateSheet.enc c7)), .d (.list 1 (List.map I c8)), .mp 260017 bo3]), (260017, .map bo3 (List.map (fun p => (.agg [I p.1.fBowler, I p.1.fWeek], .agg [I p.2.fNumber, I p.2.fBowler, I p.2.fWeek, I p.2.fGames.a0, I p.2.fGames.a1, I p.2.fGames.a2])) m1)), (11, .cells bo1 [.ptr 260019 bo2 0]), (270009, .arr hd2 3 1 false (List.map I l11))]) (all2_le_refl _) (And.intro rfl (And.intro rfl trivial)) rfl (And.intro rfl (And.intro rfl trivial)) (And.intro rfl (And.intro rfl trivial)) (fun _ => AV.le_refl _) (fun _ => rfl) ?_
     rintro _ _
     conv => whnf
     refine LoopG.unr 4 ?_
     conv => whnf
     refine IxG.mk 0 rfl (by decide) ?_
     obtain ⟨x92, hx119, hl2⟩ := obind hl2
     conv => whnf
     refine Side.mk ⟨rfl, rfl⟩ (Need.mk (idx_need _ hx119) ?_)
     conv => whnf
     refine Side.mk ⟨rfl, rfl⟩ ⟨_, Int.natCast_nonneg _, idx_el _ hx119, ?_⟩
     conv => whnf
     refine Side.mk ⟨rfl, rfl⟩ (Need.mk (idx_need _ hx119) ?_)
     conv => whnf
     refine Side.mk ⟨rfl, rfl⟩ ⟨_, Int.natCast_nonneg _, idx_el _ hx119, ?_⟩
     conv => whnf
     refine Eqv.mk (List.map I (List.set l11 (Int.toNat 0) (w64 (x92 + r24.a0)))) (set_map _ _ _ _ rfl) ?_
     conv => whnf
     refine IxG.mk 1 rfl (by decide) ?_
     obtain ⟨x94, hx121, hl2⟩ := obind hl2
     conv => whnf
     refine Side.mk ⟨rfl, rfl⟩ (Need.mk (idx_need _ hx121) ?_)
     conv => whnf
     refine Side.mk ⟨rfl, rfl⟩ ⟨_, Int.natCast_nonneg _, idx_el _ hx121, ?_⟩
     conv => whnf
     refine Side.mk ⟨rfl, rfl⟩ (Need.mk (idx_need _ hx121) ?_)
     conv => whnf
     refine Side.mk ⟨rfl, rfl⟩ ⟨_, Int.natCast_nonneg _, idx_el _ hx121, ?_⟩
     conv => whnf
     refine Eqv.mk (List.map I (List.set ((List.set l11 (Int.toNat 0) (w64 (x92 + r24.a0)))) (Int.toNat 1) (w64 (x94 + r24.a1)))) (set_map _ _ _ _ rfl) ?_
     conv => whnf
     refine IxG.mk 2 rfl (by decide) ?_
     obtain ⟨x96, hx123, hl2⟩ := obind hl2
     conv => whnf
     refine Side.mk ⟨rfl, rfl⟩ (Need.mk (idx_need _ hx123) ?_)
     conv => whnf
     refine Side.mk ⟨rfl, rfl⟩ ⟨_, Int.natCast_nonneg _, idx_el _ hx123, ?_⟩
     conv => whnf
     refine Side.mk ⟨rfl, rfl⟩ (Need.mk (idx_need _ hx123) ?_)
     conv => whnf
     refine Side.mk ⟨rfl, rfl⟩ ⟨_, Int.natCast_nonneg _, idx_el _ hx123, ?_⟩
     conv => whnf
     refine Eqv.mk (List.map I (List.set ((List.set ((List.set l11 (Int.toNat 0) (w64 (x92 + r24.a0)))) (Int.toNat 1) (w64 (x94 + r24.a1)))) (Int.toNat 2) (w64 (x96 + r24.a2)))) (set_map _ _ _ _ rfl) ?_
     conv => whnf
     refine ⟨(n2, (v17, w64 (v18 + 1), (List.set ((List.set ((List.set l11 (Int.toNat 0) (w64 (x92 + r24.a0)))) (Int.toNat 1) (w64 (x94 + r24.a1)))) (Int.toNat 2) (w64 (x96 + r24.a2))))), hl2, Sub.eq rfl ?_ ?_, Nat.lt_succ_self _⟩
     ·repeat ((conv => whnf); refine Need.mk rfl ?_)
      exact trivial
     ·conv => whnf
      refine Need.mk (OLe.refl _) ?_
      conv => whnf
      refine Need.mk (OLe.refl _) ?_
      conv => whnf
      refine Need.mk (OLe.refl _) ?_
      conv => whnf
      refine Need.mk (OLe.refl _) ?_
      exact trivial
    ·replace hl2 := ite_f hc12 hl2
     cases hl2
     conv => whnf
     refine ⟨(), trivial, Sub.eq rfl ?_ ?_⟩
     ·repeat ((conv => whnf); refine Need.mk rfl ?_)
      exact trivial
     ·conv => whnf
      refine Need.mk (OLe.refl _) ?_
      conv => whnf
      refine Need.mk (OLe.refl _) ?_
      conv => whnf
      refine Need.mk (OLe.refl _) ?_
      conv => whnf
      refine Need.mk (OLe.refl _) ?_
      exact trivial
  ·rintro _ _
   obtain ⟨r26, hx126, h⟩ := obind h
   conv => whnf
   refine Side.mk rfl ?_
   conv => whnf
   refine CallG.pure _ (rateSumC hN hx126) ?_
   conv => whnf
   intro hd5
   obtain ⟨l13, hx127, h⟩ := obind h
   conv => whnf
   refine Side.mk ⟨rfl, rfl⟩ ?_
   conv => whnf
   refine Side.mk ⟨rfl, rfl, rfl⟩ (Need.mk (app_need hN hx127 (by decide)) (Eqv.mk (List.map I l13) (app_map _ hx127) ?_))
   conv => whnf
   intro hd6
   conv => whnf
   refine Side.mk rfl ?_
   conv => whnf
   cases h
   exact ⟨(), trivial, rfl, inO_at (ren := id) (And.intro rfl (And.intro rfl (And.intro rfl trivial)))⟩

theorem rateMatchC {N : Nat} (hN : N ≤ 1073741824) {b1 : RateBook} {w1 : Int} {home1 : List Int} {away1 : List Int} {r : Int × Int × Int} (h : rateMatch N b1 w1 home1 away1 = some r) :
    ACalls Try.prog 30 [.d (.agg [I b1.fLaw.fBase, I b1.fLaw.fPercent, I b1.fLaw.fCap, I b1.fLaw.fLeast, I b1.fLaw.fBlind, .list 1 (List.map I b1.fBowlers), .list 6 (List.map RateSheet.enc b1.fSheets), .list 1 (List.map I b1.fWithdrawn)]), .d (I w1), .d (.list 1 (List.map I home1)), .d (.list 1 (List.map I away1))] [] fun e os => e = .ret (.d (.tup [I r.1, I r.2.1, I r.2.2])) ∧ os = [] := by
  refine acalls_f (fresh := false) tt_ok dr_ok ⟨[4, 5], [], [], [], [2, 1002, 1004, 1010, 1012], 0, []⟩ Try.func30 rfl Try.call30 rfl ?_
  unfold rateMatch at h
  obtain ⟨z2, hx2, h⟩ := obind h
  rcases z2 with r2 | ⟨ra2, rb2, rc2, rd2, re2, rf2, rg2, rh2, ri2, rj2⟩
  ·conv => whnf
   refine CallG.own (rateBookReadC hN hx2) id [] _ (fun y => []) (all2_le_refl _) trivial rfl trivial trivial (fun _ => AV.le_refl _) (fun _ => rfl) ?_
   rintro _ _
   conv => whnf
   intro b8
   conv => whnf
   refine Side.mk rfl ?_
   obtain ⟨e2, hx6, h⟩ := obind h
   conv => whnf
   refine SeqG.mk Unit (fun y => [(2, .d (.list 1 (List.map I home1))), (3, .d (.list 1 (List.map I away1))), (4, .d (.ref (.agg [I b1.fLaw.fBase, I b1.fLaw.fPercent, I b1.fLaw.fCap, I b1.fLaw.fLeast, I b1.fLaw.fBlind, .list 1 (List.map I b1.fBowlers), .list 6 (List.map RateSheet.enc b1.fSheets), .list 1 (List.map I b1.fWithdrawn)]))), (5, .d (.ref (.agg [I w1]))), (8, .i .i64 0), (9, .i .i64 0), (10, .d (I e2)), (11, .ptr 11 b8 0)]) (fun y => [(11, .cells b8 [.d .nilptr])]) (fun _ => True) ?_ ?_
   ·obtain ⟨v2, hx8, hx6⟩ := obind hx6
    conv => whnf
    refine SeqG.mk Unit (fun y => [(2, .d (.list 1 (List.map I home1))), (3, .d (.list 1 (List.map I away1))), (4, .d (.ref (.agg [I b1.fLaw.fBase, I b1.fLaw.fPercent, I b1.fLaw.fCap, I b1.fLaw.fLeast, I b1.fLaw.fBlind, .list 1 (List.map I b1.fBowlers), .list 6 (List.map RateSheet.enc b1.fSheets), .list 1 (List.map I b1.fWithdrawn)]))), (5, .d (.ref (.agg [I w1]))), (8, .i .i64 0), (9, .i .i64 0), (10, .d (I r2)), (11, .ptr 11 b8 0), (28, .d (.bool v2))]) (fun y => [(11, .cells b8 [.d .nilptr])]) (fun _ => True) ?_ ?_
    ·conv => whnf
     refine Br.mk (fun hc5 => ?_) (fun hc5 => ?_)
     ·replace hx8 := ite_t hc5 hx8
      obtain ⟨r6, hx9, hx8⟩ := obind hx8
      conv => whnf
      refine CallG.pure _ (rateWeekC hN hx9) ?_
      cases hx8
      conv => whnf
      refine ⟨(), trivial, Sub.eq rfl ?_ ?_⟩
      ·repeat ((conv => whnf); refine Need.mk rfl ?_)
       exact trivial
      ·conv => whnf
       refine Need.mk (OLe.refl _) ?_
       exact trivial
     ·replace hx8 := ite_f hc5 hx8
      cases hx8
      conv => whnf
      refine ⟨(), trivial, Sub.eq rfl ?_ ?_⟩
      ·repeat ((conv => whnf); refine Need.mk rfl ?_)
       exact trivial
      ·conv => whnf
       refine Need.mk (OLe.refl _) ?_
       exact trivial
    ·rintro _ _
     conv => whnf
     refine Br.mk (fun hc6 => ?_) (fun hc6 => ?_)
     ·replace hx6 := ite_t hc6 hx6
      cases hx6
      conv => whnf
      refine ⟨(), trivial, Sub.eq rfl ?_ ?_⟩
      ·repeat ((conv => whnf); refine Need.mk rfl ?_)
       exact trivial
      ·conv => whnf
       refine Need.mk (OLe.refl _) ?_
       exact trivial
     ·replace hx6 := ite_f hc6 hx6
      cases hx6
      conv => whnf
      refine ⟨(), trivial, Sub.eq rfl ?_ ?_⟩
      ·repeat ((conv => whnf); refine Need.mk rfl ?_)
       exact trivial
      ·conv => whnf
       refine Need.mk (OLe.refl _) ?_
       exact trivial
   ·rintro _ _
    obtain ⟨e3, hx11, h⟩ := obind h
    conv => whnf
    refine SeqG.mk Unit (fun y => [(2, .d (.list 1 (List.map I home1))), (3, .d (.list 1 (List.map I away1))), (5, .d (.ref (.agg [I w1]))), (8, .i .i64 0), (9, .i .i64 0), (10, .d (I e3)), (11, .ptr 11 b8 0)]) (fun y => [(11, .cells b8 [.d .nilptr])]) (fun _ => True) ?_ ?_
    ·conv => whnf
     refine Br.mk (fun hc8 => ?_) (fun hc8 => ?_)
     ·replace hx11 := ite_t hc8 hx11
      obtain ⟨r8, hx12, hx11⟩ := obind hx11
      conv => whnf
      refine CallG.pure _ (rateBookTeamsC hN hx12) ?_
      cases hx11
      conv => whnf
      refine ⟨(), trivial, Sub.eq rfl ?_ ?_⟩
      ·repeat ((conv => whnf); refine Need.mk rfl ?_)
       exact trivial
      ·conv => whnf
       refine Need.mk (OLe.refl _) ?_
       exact trivial
     ·replace hx11 := ite_f hc8 hx11
      cases hx11
      conv => whnf
      refine ⟨(), trivial, Sub.eq rfl ?_ ?_⟩
      ·repeat ((conv => whnf); refine Need.mk rfl ?_)
       exact trivial
      ·conv => whnf
       refine Need.mk (OLe.refl _) ?_
       exact trivial
    ·rintro _ _
     conv => whnf
     refine Br.mk (fun hc10 => ?_) (fun hc10 => ?_)
     ·replace h := ite_t hc10 h
      conv => whnf
      cases h
      exact rfl
     ·replace h := ite_f hc10 h
      obtain ⟨r11, hx15, h⟩ := obind h
      conv => whnf
      refine CallG.own (rateMatch1C (bo1 := b8) hN hx15) id [] _ (fun y => [(11, .cells b8 [.d .nilptr])]) (all2_le_refl _) (And.intro rfl trivial) rfl (And.intro rfl trivial) trivial (fun _ => AV.le_refl _) (fun _ => rfl) ?_
      rintro _ _
      obtain ⟨r12, hx16, h⟩ := obind h
      conv => whnf
      refine CallG.own (rateMatch1C (bo1 := b8) hN hx16) id [] _ (fun y => [(11, .cells b8 [.d .nilptr])]) (all2_le_refl _) (And.intro rfl trivial) rfl (And.intro rfl trivial) trivial (fun _ => AV.le_refl _) (fun _ => rfl) ?_
      rintro _ _
      obtain ⟨⟨forHome8, forAway8⟩, hx56, h⟩ := obind h
      conv => whnf
      refine SeqG.mk Unit (fun y => [(8, .d (I forHome8)), (9, .d (I forAway8))]) (fun y => []) (fun _ => True) ?_ ?_
      ·conv => whnf
       refine LnA.mk _ (List.length_map _) ?_
       conv => whnf
       refine LoopG.mk (Nat × (Int × Int × Int × Int)) (fun y => [(8, .d (I y.2.1)), (9, .d (I y.2.2.1)), (14, .d (.list 1 (List.map I r12))), (45, .d (.list 1 (List.map I r11))), (46, .d (I y.2.2.2.1)), (47, .d (I y.2.2.2.2))]) (fun y => []) (fun y => loopN (fun rr x => rateMatch_b1 N r11 r12 rr x.1 x.2.1 x.2.2.1 x.2.2.2) y.1 y.2 = some (forHome8, forAway8)) (fun y => y.1) (N, (0, 0, (r11.length : Int), 0)) hx56 (Sub.eq rfl ?_ ?_) ?_
       ·repeat ((conv => whnf); refine Need.mk rfl ?_)
        exact trivial
       ·exact trivial
       ·rintro ⟨n2, ⟨forHome14, forAway14, v19, v20⟩⟩ hl2
        obtain ⟨n2, rfl, hl2⟩ := loopN_some hl2
        replace hl2 : rateMatch_b1 N r11 r12 (loopN (fun rr x => rateMatch_b1 N r11 r12 rr x.1 x.2.1 x.2.2.1 x.2.2.2) n2) forHome14 forAway14 v19 v20 = some (forHome8, forAway8) := hl2
        rw [rateMatch_b1] at hl2
        conv => whnf
        refine Br.mk (fun hc62 => ?_) (fun hc62 => ?_)
        ·replace hl2 := ite_t hc62 hl2
         obtain ⟨⟨forHome15, forAway15⟩, hx89, hl2⟩ := obind hl2
         conv => whnf
         refine SeqG.mk Unit (fun y => [(8, .d (I forHome15)), (9, .d (I forAway15)), (14, .d (.list 1 (List.map I r12))), (45, .d (.list 1 (List.map I r11))), (46, .d (I v19)), (47, .d (I v20))]) (fun y => []) (fun _ => True) ?_ ?_
         ·obtain ⟨x68, hx91, hx89⟩ := obind hx89
          conv => whnf
          refine Side.mk rfl ⟨_, idx_0 hx91, idx_map _ hx91, ?_⟩
          obtain ⟨x72, hx95, hx89⟩ := obind hx89
          conv => whnf
          refine Side.mk rfl ⟨_, idx_0 hx95, idx_map _ hx95, ?_⟩
          conv => whnf
          refine Br.mk (fun hc69 => ?_) (fun hc69 => ?_)
          ·replace hx89 := ite_t hc69 hx89
           cases hx89
           conv => whnf
           refine ⟨(), trivial, Sub.eq rfl ?_ ?_⟩
           ·repeat ((conv => whnf); refine Need.mk rfl ?_)
            exact trivial
           ·exact trivial
          ·replace hx89 := ite_f hc69 hx89
           conv => whnf
           refine Side.mk rfl ⟨_, idx_0 hx95, idx_map _ hx95, ?_⟩
           conv => whnf
           refine Br.mk (fun hc70 => ?_) (fun hc70 => ?_)
           ·replace hx89 := ite_t hc70 hx89
            cases hx89
            conv => whnf
            refine ⟨(), trivial, Sub.eq rfl ?_ ?_⟩
            ·repeat ((conv => whnf); refine Need.mk rfl ?_)
             exact trivial
            ·exact trivial
           ·replace hx89 := ite_f hc70 hx89
            cases hx89
            conv => whnf
            refine ⟨(), trivial, Sub.eq rfl ?_ ?_⟩
            ·repeat ((conv => whnf); refine Need.mk rfl ?_)
             exact trivial
            ·exact trivial
         ·rintro _ _
          conv => whnf
          refine ⟨(n2, (forHome15, forAway15, v19, w64 (v20 + 1))), hl2, Sub.eq rfl ?_ ?_, Nat.lt_succ_self _⟩
          ·repeat ((conv => whnf); refine Need.mk rfl ?_)
           exact trivial
          ·exact trivial
        ·replace hl2 := ite_f hc62 hl2
         cases hl2
         conv => whnf
         refine ⟨(), trivial, Sub.eq rfl ?_ ?_⟩
         ·repeat ((conv => whnf); refine Need.mk rfl ?_)
          exact trivial
         ·exact trivial
      ·rintro _ _
       conv => whnf
       cases h
       exact rfl
  ·conv => whnf
   refine CallG.own (rateBookReadC hN hx2) id [] _ (fun y => [(260019, .cells y.1 [.d (I rb2), .d (I rc2), .d (I rd2), .d (I re2), .d (I rf2), .d (.list 1 (List.map I rg2)), .d (.list 6 (List.map RateSheet.enc rh2)), .d (.list 1 (List.map I ri2)), .mp 260017 y.2]), (260017, .map y.2 (List.map (fun p => (.agg [I p.1.fBowler, I p.1.fWeek], .agg [I p.2.fNumber, I p.2.fBowler, I p.2.fWeek, I p.2.fGames.a0, I p.2.fGames.a1, I p.2.fGames.a2])) rj2))]) (all2_le_refl _) trivial rfl trivial trivial (fun _ => AV.le_refl _) (fun _ => rfl) ?_
   rintro ⟨b6, b7⟩ _
   conv => whnf
   intro b9
   conv => whnf
   refine Side.mk rfl ?_
   obtain ⟨e4, hx99, h⟩ := obind h
   conv => whnf
   refine SeqG.mk Unit (fun y => [(2, .d (.list 1 (List.map I home1))), (3, .d (.list 1 (List.map I away1))), (4, .d (.ref (.agg [I b1.fLaw.fBase, I b1.fLaw.fPercent, I b1.fLaw.fCap, I b1.fLaw.fLeast, I b1.fLaw.fBlind, .list 1 (List.map I b1.fBowlers), .list 6 (List.map RateSheet.enc b1.fSheets), .list 1 (List.map I b1.fWithdrawn)]))), (5, .d (.ref (.agg [I w1]))), (8, .i .i64 0), (9, .i .i64 0), (10, .d (I e4)), (11, .ptr 11 b9 0)]) (fun y => [(11, .cells b9 [.ptr 260019 b6 0]), (260019, .cells b6 [.d (I rb2), .d (I rc2), .d (I rd2), .d (I re2), .d (I rf2), .d (.list 1 (List.map I rg2)), .d (.list 6 (List.map RateSheet.enc rh2)), .d (.list 1 (List.map I ri2)), .mp 260017 b7]), (260017, .map b7 (List.map (fun p => (.agg [I p.1.fBowler, I p.1.fWeek], .agg [I p.2.fNumber, I p.2.fBowler, I p.2.fWeek, I p.2.fGames.a0, I p.2.fGames.a1, I p.2.fGames.a2])) rj2))]) (fun _ => True) ?_ ?_
   ·obtain ⟨v22, hx101, hx99⟩ := obind hx99
    conv => whnf
    refine SeqG.mk Unit (fun y => [(2, .d (.list 1 (List.map I home1))), (3, .d (.list 1 (List.map I away1))), (4, .d (.ref (.agg [I b1.fLaw.fBase, I b1.fLaw.fPercent, I b1.fLaw.fCap, I b1.fLaw.fLeast, I b1.fLaw.fBlind, .list 1 (List.map I b1.fBowlers), .list 6 (List.map RateSheet.enc b1.fSheets), .list 1 (List.map I b1.fWithdrawn)]))), (5, .d (.ref (.agg [I w1]))), (8, .i .i64 0), (9, .i .i64 0), (10, .d (I ra2)), (11, .ptr 11 b9 0), (28, .d (.bool v22))]) (fun y => [(11, .cells b9 [.ptr 260019 b6 0]), (260019, .cells b6 [.d (I rb2), .d (I rc2), .d (I rd2), .d (I re2), .d (I rf2), .d (.list 1 (List.map I rg2)), .d (.list 6 (List.map RateSheet.enc rh2)), .d (.list 1 (List.map I ri2)), .mp 260017 b7]), (260017, .map b7 (List.map (fun p => (.agg [I p.1.fBowler, I p.1.fWeek], .agg [I p.2.fNumber, I p.2.fBowler, I p.2.fWeek, I p.2.fGames.a0, I p.2.fGames.a1, I p.2.fGames.a2])) rj2))]) (fun _ => True) ?_ ?_
    ·conv => whnf
     refine Br.mk (fun hc75 => ?_) (fun hc75 => ?_)
     ·replace hx101 := ite_t hc75 hx101
      obtain ⟨r16, hx102, hx101⟩ := obind hx101
      conv => whnf
      refine CallG.pure _ (rateWeekC hN hx102) ?_
      cases hx101
      conv => whnf
      refine ⟨(), trivial, Sub.eq rfl ?_ ?_⟩
      ·repeat ((conv => whnf); refine Need.mk rfl ?_)
       exact trivial
      ·conv => whnf
       refine Need.mk (OLe.refl _) ?_
       conv => whnf
       refine Need.mk (OLe.refl _) ?_
       conv => whnf
       refine Need.mk (OLe.refl _) ?_
       exact trivial
     ·replace hx101 := ite_f hc75 hx101
      cases hx101
      conv => whnf
      refine ⟨(), trivial, Sub.eq rfl ?_ ?_⟩
      ·repeat ((conv => whnf); refine Need.mk rfl ?_)
       exact trivial
      ·conv => whnf
       refine Need.mk (OLe.refl _) ?_
       conv => whnf
       refine Need.mk (OLe.refl _) ?_
       conv => whnf
       refine Need.mk (OLe.refl _) ?_
       exact trivial
    ·rintro _ _
     conv => whnf
     refine Br.mk (fun hc76 => ?_) (fun hc76 => ?_)
     ·replace hx99 := ite_t hc76 hx99
      cases hx99
      conv => whnf
      refine ⟨(), trivial, Sub.eq rfl ?_ ?_⟩
      ·repeat ((conv => whnf); refine Need.mk rfl ?_)
       exact trivial
      ·conv => whnf
       refine Need.mk (OLe.refl _) ?_
       conv => whnf
       refine Need.mk (OLe.refl _) ?_
       conv => whnf
       refine Need.mk (OLe.refl _) ?_
       exact trivial
     ·replace hx99 := ite_f hc76 hx99
      cases hx99
      conv => whnf
      refine ⟨(), trivial, Sub.eq rfl ?_ ?_⟩
      ·repeat ((conv => whnf); refine Need.mk rfl ?_)
       exact trivial
      ·conv => whnf
       refine Need.mk (OLe.refl _) ?_
       conv => whnf
       refine Need.mk (OLe.refl _) ?_
       conv => whnf
       refine Need.mk (OLe.refl _) ?_
       exact trivial
   ·rintro _ _
    obtain ⟨e5, hx104, h⟩ := obind h
    conv => whnf
    refine SeqG.mk Unit (fun y => [(2, .d (.list 1 (List.map I home1))), (3, .d (.list 1 (List.map I away1))), (5, .d (.ref (.agg [I w1]))), (8, .i .i64 0), (9, .i .i64 0), (10, .d (I e5)), (11, .ptr 11 b9 0)]) (fun y => [(11, .cells b9 [.ptr 260019 b6 0]), (260019, .cells b6 [.d (I rb2), .d (I rc2), .d (I rd2), .d (I re2), .d (I rf2), .d (.list 1 (List.map I rg2)), .d (.list 6 (List.map RateSheet.enc rh2)), .d (.list 1 (List.map I ri2)), .mp 260017 b7]), (260017, .map b7 (List.map (fun p => (.agg [I p.1.fBowler, I p.1.fWeek], .agg [I p.2.fNumber, I p.2.fBowler, I p.2.fWeek, I p.2.fGames.a0, I p.2.fGames.a1, I p.2.fGames.a2])) rj2))]) (fun _ => True) ?_ ?_
    ·conv => whnf
     refine Br.mk (fun hc78 => ?_) (fun hc78 => ?_)
     ·replace hx104 := ite_t hc78 hx104
      obtain ⟨r18, hx105, hx104⟩ := obind hx104
      conv => whnf
      refine CallG.pure _ (rateBookTeamsC hN hx105) ?_
      cases hx104
      conv => whnf
      refine ⟨(), trivial, Sub.eq rfl ?_ ?_⟩
      ·repeat ((conv => whnf); refine Need.mk rfl ?_)
       exact trivial
      ·conv => whnf
       refine Need.mk (OLe.refl _) ?_
       conv => whnf
       refine Need.mk (OLe.refl _) ?_
       conv => whnf
       refine Need.mk (OLe.refl _) ?_
       exact trivial
     ·replace hx104 := ite_f hc78 hx104
      cases hx104
      conv => whnf
      refine ⟨(), trivial, Sub.eq rfl ?_ ?_⟩
      ·repeat ((conv => whnf); refine Need.mk rfl ?_)
       exact trivial
      ·conv => whnf
       refine Need.mk (OLe.refl _) ?_
       conv => whnf
       refine Need.mk (OLe.refl _) ?_
       conv => whnf
       refine Need.mk (OLe.refl _) ?_
       exact trivial
    ·rintro _ _
     conv => whnf
     refine Br.mk (fun hc80 => ?_) (fun hc80 => ?_)
     ·replace h := ite_t hc80 h
      conv => whnf
      cases h
      exact rfl
     ·replace h := ite_f hc80 h
      obtain ⟨r21, hx108, h⟩ := obind h
      conv => whnf
      refine CallG.own (rateMatch1XC (bo1 := b9) (bo2 := b6) (bo3 := b7) hN hx108) id [] _ (fun y => [(11, .cells b9 [.ptr 260019 b6 0]), (260019, .cells b6 [.d (I rb2), .d (I rc2), .d (I rd2), .d (I re2), .d (I rf2), .d (.list 1 (List.map I rg2)), .d (.list 6 (List.map RateSheet.enc rh2)), .d (.list 1 (List.map I ri2)), .mp 260017 b7]), (260017, .map b7 (List.map (fun p => (.agg [I p.1.fBowler, I p.1.fWeek], .agg [I p.2.fNumber, I p.2.fBowler, I p.2.fWeek, I p.2.fGames.a0, I p.2.fGames.a1, I p.2.fGames.a2])) rj2))]) (all2_le_refl _) (And.intro rfl (And.intro rfl (And.intro rfl trivial))) rfl (And.intro rfl (And.intro rfl (And.intro rfl trivial))) trivial (fun _ => AV.le_refl _) (fun _ => rfl) ?_
      rintro _ _
      obtain ⟨r22, hx109, h⟩ := obind h
      conv => whnf
      refine CallG.own (rateMatch1XC (bo1 := b9) (bo2 := b6) (bo3 := b7) hN hx109) id [] _ (fun y => [(11, .cells b9 [.ptr 260019 b6 0]), (260019, .cells b6 [.d (I rb2), .d (I rc2), .d (I rd2), .d (I re2), .d (I rf2), .d (.list 1 (List.map I rg2)), .d (.list 6 (List.map RateSheet.enc rh2)), .d (.list 1 (List.map I ri2)), .mp 260017 b7]), (260017, .map b7 (List.map (fun p => (.agg [I p.1.fBowler, I p.1.fWeek], .agg [I p.2.fNumber, I p.2.fBowler, I p.2.fWeek, I p.2.fGames.a0, I p.2.fGames.a1, I p.2.fGames.a2])) rj2))]) (all2_le_refl _) (And.intro rfl (And.intro rfl (And.intro rfl trivial))) rfl (And.intro rfl (And.intro rfl (And.intro rfl trivial))) trivial (fun _ => AV.le_refl _) (fun _ => rfl) ?_
      rintro _ _
      obtain ⟨⟨forHome23, forAway23⟩, hx149, h⟩ := obind h
      conv => whnf
      refine SeqG.mk Unit (fun y => [(8, .d (I forHome23)), (9, .d (I forAway23))]) (fun y => []) (fun _ => True) ?_ ?_
      ·conv => whnf
       refine LnA.mk _ (List.length_map _) ?_
       conv => whnf
       refine LoopG.mk (Nat × (Int × Int × Int × Int)) (fun y => [(8, .d (I y.2.1)), (9, .d (I y.2.2.1)), (14, .d (.list 1 (List.map I r22))), (45, .d (.list 1 (List.map I r21))), (46, .d (I y.2.2.2.1)), (47, .d (I y.2.2.2.2))]) (fun y => []) (fun y => loopN (fun rr x => rateMatch_b2 N r21 r22 rr x.1 x.2.1 x.2.2.1 x.2.2.2) y.1 y.2 = some (forHome23, forAway23)) (fun y => y.1) (N, (0, 0, (r21.length : Int), 0)) hx149 (Sub.eq rfl ?_ ?_) ?_
       ·repeat ((conv => whnf); refine Need.mk rfl ?_)
        exact trivial
       ·exact trivial
       ·rintro ⟨n4, ⟨forHome29, forAway29, v39, v40⟩⟩ hl4
        obtain ⟨n4, rfl, hl4⟩ := loopN_some hl4
        replace hl4 : rateMatch_b2 N r21 r22 (loopN (fun rr x => rateMatch_b2 N r21 r22 rr x.1 x.2.1 x.2.2.1 x.2.2.2) n4) forHome29 forAway29 v39 v40 = some (forHome23, forAway23) := hl4
        rw [rateMatch_b2] at hl4
        conv => whnf
        refine Br.mk (fun hc132 => ?_) (fun hc132 => ?_)
        ·replace hl4 := ite_t hc132 hl4
         obtain ⟨⟨forHome30, forAway30⟩, hx182, hl4⟩ := obind hl4
         conv => whnf
         refine SeqG.mk Unit (fun y => [(8, .d (I forHome30)), (9, .d (I forAway30)), (14, .d (.list 1 (List.map I r22))), (45, .d (.list 1 (List.map I r21))), (46, .d (I v39)), (47, .d (I v40))]) (fun y => []) (fun _ => True) ?_ ?_
         ·obtain ⟨x140, hx184, hx182⟩ := obind hx182
          conv => whnf
          refine Side.mk rfl ⟨_, idx_0 hx184, idx_map _ hx184, ?_⟩
          obtain ⟨x144, hx188, hx182⟩ := obind hx182
          conv => whnf
          refine Side.mk rfl ⟨_, idx_0 hx188, idx_map _ hx188, ?_⟩
          conv => whnf
          refine Br.mk (fun hc139 => ?_) (fun hc139 => ?_)
          ·replace hx182 := ite_t hc139 hx182
           cases hx182
           conv => whnf
           refine ⟨(), trivial, Sub.eq rfl ?_ ?_⟩
           ·repeat ((conv => whnf); refine Need.mk rfl ?_)
            exact trivial
           ·exact trivial
          ·replace hx182 := ite_f hc139 hx182
           conv => whnf
           refine Side.mk rfl ⟨_, idx_0 hx188, idx_map _ hx188, ?_⟩
           conv => whnf
           refine Br.mk (fun hc140 => ?_) (fun hc140 => ?_)
           ·replace hx182 := ite_t hc140 hx182
            cases hx182
            conv => whnf
            refine ⟨(), trivial, Sub.eq rfl ?_ ?_⟩
            ·repeat ((conv => whnf); refine Need.mk rfl ?_)
             exact trivial
            ·exact trivial
           ·replace hx182 := ite_f hc140 hx182
            cases hx182
            conv => whnf
            refine ⟨(), trivial, Sub.eq rfl ?_ ?_⟩
            ·repeat ((conv => whnf); refine Need.mk rfl ?_)
             exact trivial
            ·exact trivial
         ·rintro _ _
          conv => whnf
          refine ⟨(n4, (forHome30, forAway30, v39, w64 (v40 + 1))), hl4, Sub.eq rfl ?_ ?_, Nat.lt_succ_self _⟩
          ·repeat ((conv => whnf); refine Need.mk rfl ?_)
           exact trivial
          ·exact trivial
        ·replace hl4 := ite_f hc132 hl4
         cases hl4
         conv => whnf
         refine ⟨(), trivial, Sub.eq rfl ?_ ?_⟩
         ·repeat ((conv => whnf); refine Need.mk rfl ?_)
          exact trivial
         ·exact trivial
      ·rintro _ _
       conv => whnf
       cases h
       exact rfl

theorem rateSpan1C {N : Nat} (hN : N ≤ 1073741824) {n1 : Int} {a1 : Int} {r : Bool} (h : rateSpan1 N n1 a1 = some r) :
    ACalls Try.prog 64 [.d (I n1), .d (.ref (.agg [I a1]))] [] fun e os => e = .ret (.d (.bool r)) ∧ os = [] := by
  refine acalls_f (fresh := false) tt_ok dr_ok ⟨[], [], [], [], [], 0, []⟩ Try.func64 rfl Try.call64 rfl ?_
  unfold rateSpan1 at h
  obtain ⟨r2, hx2, h⟩ := obind h
  conv => whnf
  refine CallG.pure _ (rateWithinC hN hx2) ?_
  conv => whnf
  cases h
  exact rfl

theorem rateAll1XXXXC {N : Nat} (hN : N ≤ 1073741824) {x1 : Int} {a1 : Int} {r : Bool} (h : rateAll1XXXX N x1 a1 = some r) :
    ACalls Try.prog 72 [.d (I x1), .d (.ref (.agg [.fn (.func 64) [] [.ref (.agg [I a1])]]))] [] fun e os => e = .ret (.d (.bool r)) ∧ os = [] := by
  refine acalls_f (fresh := false) tt_ok dr_ok ⟨[], [], [], [], [], 0, []⟩ Try.func72 rfl Try.call72 rfl ?_
  unfold rateAll1XXXX at h
  obtain ⟨r2, hx2, h⟩ := obind h
  conv => whnf
  refine CallG.pure _ (rateSpan1C hN hx2) ?_
  conv => whnf
  cases h
  exact rfl

theorem slicesIndexFuncXXXXC {N : Nat} (hN : N ≤ 1073741824) {s1 : List Int} {f1 : Int} {r : Int} (h : slicesIndexFuncXXXX N s1 f1 = some r) :
    ACalls Try.prog 84 [.d (.list 1 (List.map I s1)), .d (.fn (.func 72) [] [.ref (.agg [.fn (.func 64) [] [.ref (.agg [I f1])]])])] [] fun e os => e = .ret (.d (I r)) ∧ os = [] := by
  refine acalls_f (fresh := false) tt_ok dr_ok ⟨[], [], [], [], [1001], 0, []⟩ Try.func84 rfl Try.call84 rfl ?_
  unfold slicesIndexFuncXXXX at h
  conv => whnf
  refine SeqG.mk Unit (fun y => []) (fun y => []) (fun y => slicesIndexFuncXXXX_k1 N = some r) ?_ ?_
  ·conv => whnf
   refine LnA.mk _ (List.length_map _) ?_
   conv => whnf
   refine LoopG.mk (Nat × (Int × Int)) (fun y => [(0, .d (.list 1 (List.map I s1))), (1, .d (.fn (.func 72) [] [.ref (.agg [.fn (.func 64) [] [.ref (.agg [I f1])]])])), (7, .d (I y.2.1)), (8, .d (I y.2.2))]) (fun y => []) (fun y => loopN (fun rr x => slicesIndexFuncXXXX_b2 N s1 f1 rr x.1 x.2) y.1 y.2 = some r) (fun y => y.1) (N, ((s1.length : Int), 0)) h (Sub.eq rfl ?_ ?_) ?_
   ·repeat ((conv => whnf); refine Need.mk rfl ?_)
    exact trivial
   ·exact trivial
   ·rintro ⟨n2, ⟨v17, v18⟩⟩ hl2
    obtain ⟨n2, rfl, hl2⟩ := loopN_some hl2
    replace hl2 : slicesIndexFuncXXXX_b2 N s1 f1 (loopN (fun rr x => slicesIndexFuncXXXX_b2 N s1 f1 rr x.1 x.2) n2) v17 v18 = some r := hl2
    rw [slicesIndexFuncXXXX_b2] at hl2
    conv => whnf
    refine Br.mk (fun hc22 => ?_) (fun hc22 => ?_)
    ·replace hl2 := ite_t hc22 hl2
     obtain ⟨x24, hx47, hl2⟩ := obind hl2
     conv => whnf
     refine Side.mk rfl ⟨_, idx_0 hx47, idx_map _ hx47, ?_⟩
     obtain ⟨r24, hx48, hl2⟩ := obind hl2
     conv => whnf
     refine CallG.pure _ (rateAll1XXXXC hN hx48) ?_
     conv => whnf
     refine Br.mk (fun hc24 => ?_) (fun hc24 => ?_)
     ·replace hl2 := ite_t hc24 hl2
      conv => whnf
      cases hl2
      exact rfl
     ·replace hl2 := ite_f hc24 hl2
      conv => whnf
      refine ⟨(n2, (v17, w64 (v18 + 1))), hl2, Sub.eq rfl ?_ ?_, Nat.lt_succ_self _⟩
      ·repeat ((conv => whnf); refine Need.mk rfl ?_)
       exact trivial
      ·exact trivial
    ·replace hl2 := ite_f hc22 hl2
     conv => whnf
     refine ⟨(), hl2, Sub.eq rfl ?_ ?_⟩
     ·repeat ((conv => whnf); refine Need.mk rfl ?_)
      exact trivial
     ·exact trivial
  ·clear h
   rintro _ h
   unfold slicesIndexFuncXXXX_k1 at h
   conv => whnf
   cases h
   exact rfl

theorem slicesContainsFuncXXXXC {N : Nat} (hN : N ≤ 1073741824) {s1 : List Int} {f1 : Int} {r : Bool} (h : slicesContainsFuncXXXX N s1 f1 = some r) :
    ACalls Try.prog 71 [.d (.list 1 (List.map I s1)), .d (.fn (.func 72) [] [.ref (.agg [.fn (.func 64) [] [.ref (.agg [I f1])]])])] [] fun e os => e = .ret (.d (.bool r)) ∧ os = [] := by
  refine acalls_f (fresh := false) tt_ok dr_ok ⟨[], [], [], [], [], 0, []⟩ Try.func71 rfl Try.call71 rfl ?_
  unfold slicesContainsFuncXXXX at h
  obtain ⟨r2, hx2, h⟩ := obind h
  conv => whnf
  refine CallG.pure _ (slicesIndexFuncXXXXC hN hx2) ?_
  conv => whnf
  cases h
  exact rfl

theorem rateAllXXXXC {N : Nat} (hN : N ≤ 1073741824) {l1 : List Int} {right1 : Int} {r : Bool} (h : rateAllXXXX N l1 right1 = some r) :
    ACalls Try.prog 45 [.d (.list 1 (List.map I l1)), .d (.fn (.func 64) [] [.ref (.agg [I right1])])] [] fun e os => e = .ret (.d (.bool r)) ∧ os = [] := by
  refine acalls_f (fresh := false) tt_ok dr_ok ⟨[3], [], [], [], [], 0, []⟩ Try.func45 rfl Try.call45 rfl ?_
  unfold rateAllXXXX at h
  obtain ⟨r2, hx2, h⟩ := obind h
  conv => whnf
  refine CallG.pure _ (slicesContainsFuncXXXXC hN hx2) ?_
  conv => whnf
  cases h
  exact rfl

theorem slicesIndexFuncXXXXXC {N : Nat} (hN : N ≤ 1073741824) {s1 : List Int} {c1 : Int} {bo1 : Nat} {bo2 : Nat} {r : Int} (h : slicesIndexFuncXXXXX N s1 c1 = some r) :
    ACalls Try.prog 84 [.d (.list 1 (List.map I s1)), .fn (.func 72) [] [.ptr 10003 bo1 0]] [(10003, .cells bo1 [.fn (.func 66) [] [.ptr 10 bo2 0, .d (.ref (.agg [I c1]))]]), (10, .cells bo2 [.d .nilptr])] fun ae os => ∃ y : Unit, True ∧ ae = .ret (.d (I r)) ∧ os = [(10003, .cells bo1 [.fn (.func 66) [] [.ptr 10 bo2 0, .d (.ref (.agg [I c1]))]]), (10, .cells bo2 [.d .nilptr])] := by
  refine acalls_own (fresh := false) tt_ok dr_ok ⟨[], [], [], [], [1001], 20000, []⟩ Try.func84 rfl Try.call84 rfl ?_
  unfold slicesIndexFuncXXXXX at h
  obtain ⟨_, hx13, h⟩ := obind h
  conv => whnf
  refine SeqG.mk Unit (fun y => []) (fun y => [(10003, .cells bo1 [.fn (.func 66) [] [.ptr 10 bo2 0, .d (.ref (.agg [I c1]))]]), (10, .cells bo2 [.d .nilptr])]) (fun _ => True) ?_ ?_
  ·conv => whnf
   refine LnA.mk _ (List.length_map _) ?_
   conv => whnf
   refine LoopG.mk (Nat × Int) (fun y => [(0, .d (.list 1 (List.map I s1))), (1, .fn (.func 72) [] [.ptr 10003 bo1 0]), (7, .d (I y.2)), (8, .i .i64 0)]) (fun y => [(10003, .cells bo1 [.fn (.func 66) [] [.ptr 10 bo2 0, .d (.ref (.agg [I c1]))]]), (10, .cells bo2 [.d .nilptr])]) (fun y => loopN (fun rr x => slicesIndexFuncXXXXX_b1 N s1 rr x) y.1 y.2 = some ()) (fun y => y.1) (N, (s1.length : Int)) hx13 (Sub.eq rfl ?_ ?_) ?_
   ·repeat ((conv => whnf); refine Need.mk rfl ?_)
    exact trivial
   ·conv => whnf
    refine Need.mk (OLe.refl _) ?_
    conv => whnf
    refine Need.mk (OLe.refl _) ?_
    exact trivial
   ·rintro ⟨n2, v10⟩ hl2
    obtain ⟨n2, rfl, hl2⟩ := loopN_some hl2
    replace hl2 : slicesIndexFuncXXXXX_b1 N s1 (loopN (fun rr x => slicesIndexFuncXXXXX_b1 N s1 rr x) n2) v10 = some () := hl2
    rw [slicesIndexFuncXXXXX_b1] at hl2
    conv => whnf
    refine Br.mk (fun hc12 => ?_) (fun hc12 => ?_)
    ·replace hl2 := ite_t hc12 hl2
     obtain ⟨x24, hx25, hl2⟩ := obind hl2
     conv => whnf
     refine Side.mk rfl ⟨_, idx_0 hx25, idx_map _ hx25, ?_⟩
     cases hl2
    ·replace hl2 := ite_f hc12 hl2
     conv => whnf
     refine ⟨(), trivial, Sub.eq rfl ?_ ?_⟩
     ·repeat ((conv => whnf); refine Need.mk rfl ?_)
      exact trivial
     ·conv => whnf
      refine Need.mk (OLe.refl _) ?_
      conv => whnf
      refine Need.mk (OLe.refl _) ?_
      exact trivial
  ·rintro _ _
   conv => whnf
   cases h
   exact ⟨(), trivial, rfl, inO_at (ren := id) (And.intro rfl (And.intro rfl trivial))⟩

theorem slicesContainsFuncXXXXXC {N : Nat} (hN : N ≤ 1073741824) {s1 : List Int} {c1 : Int} {bo1 : Nat} {bo2 : Nat} {r : Bool} (h : slicesContainsFuncXXXXX N s1 c1 = some r) :
    ACalls Try.prog 71 [.d (.list 1 (List.map I s1)), .fn (.func 72) [] [.ptr 10003 bo1 0]] [(10003, .cells bo1 [.fn (.func 66) [] [.ptr 10 bo2 0, .d (.ref (.agg [I c1]))]]), (10, .cells bo2 [.d .nilptr])] fun ae os => ∃ y : Unit, True ∧ ae = .ret (.d (.bool r)) ∧ os = [(10003, .cells bo1 [.fn (.func 66) [] [.ptr 10 bo2 0, .d (.ref (.agg [I c1]))]]), (10, .cells bo2 [.d .nilptr])] := by
  refine acalls_own (fresh := false) tt_ok dr_ok ⟨[], [], [], [], [], 20000, []⟩ Try.func71 rfl Try.call71 rfl ?_
  unfold slicesContainsFuncXXXXX at h
  obtain ⟨r2, hx2, h⟩ := obind h
  conv => whnf
  refine CallG.own (slicesIndexFuncXXXXXC (bo1 := bo1) (bo2 := bo2) hN hx2) id [] _ (fun y => [(10003, .cells bo1 [.fn (.func 66) [] [.ptr 10 bo2 0, .d (.ref (.agg [I c1]))]]), (10, .cells bo2 [.d .nilptr])]) (all2_le_refl _) (And.intro rfl (And.intro rfl trivial)) rfl (And.intro rfl (And.intro rfl trivial)) trivial (fun _ => AV.le_refl _) (fun _ => rfl) ?_
  rintro _ _
  conv => whnf
  cases h
  exact ⟨(), trivial, rfl, inO_at (ren := id) (And.intro rfl (And.intro rfl trivial))⟩

theorem rateAllXXXXXC {N : Nat} (hN : N ≤ 1073741824) {l1 : List Int} {right1 : Int} {bo1 : Nat} {r : Bool} (h : rateAllXXXXX N l1 right1 = some r) :
    ACalls Try.prog 45 [.d (.list 1 (List.map I l1)), .fn (.func 66) [] [.ptr 10 bo1 0, .d (.ref (.agg [I right1]))]] [(10, .cells bo1 [.d .nilptr])] fun ae os => ∃ y : Unit, True ∧ ae = .ret (.d (.bool r)) ∧ os = [(10, .cells bo1 [.d .nilptr])] := by
  refine acalls_own (fresh := false) tt_ok dr_ok ⟨[], [], [], [], [], 10000, []⟩ Try.func45 rfl Try.call45 rfl ?_
  unfold rateAllXXXXX at h
  conv => whnf
  intro b2
  obtain ⟨r2, hx2, h⟩ := obind h
  conv => whnf
  refine CallG.own (slicesContainsFuncXXXXXC (bo1 := b2) (bo2 := bo1) hN hx2) id [] _ (fun y => [(10003, .cells b2 [.fn (.func 66) [] [.ptr 10 bo1 0, .d (.ref (.agg [I right1]))]]), (10, .cells bo1 [.d .nilptr])]) (all2_le_refl _) (And.intro rfl (And.intro rfl trivial)) rfl (And.intro rfl (And.intro rfl trivial)) trivial (fun _ => AV.le_refl _) (fun _ => rfl) ?_
  rintro _ _
  conv => whnf
  cases h
  exact ⟨(), trivial, rfl, inO_at (ren := id) (And.intro rfl trivial)⟩

theorem rateSpan2C {N : Nat} (hN : N ≤ 1073741824) {n1 : Int} {a1 : Int} {c1 : Int} {c2 : Int} {c3 : Int} {c4 : Int} {c5 : Int} {c6 : List Int} {c7 : List RateSheet} {c8 : List Int} {m1 : List (RateTurn × RateSheet)} {bo1 : Nat} {bo2 : Nat} {bo3 : Nat} {r : Bool} (h : rateSpan2 N n1 a1 c1 c2 c3 c4 c5 c6 c7 c8 m1 = some r) :
    ACalls Try.prog 66 [.d (I n1), .ptr 10 bo1 0, .d (.ref (.agg [I a1]))] [(10, .cells bo1 [.ptr 260019 bo2 0]), (260019, .cells bo2 [.d (I c1), .d (I c2), .d (I c3), .d (I c4), .d (I c5), .d (.list 1 (List.map I c6)), .d (.list 6 (List.map RateSheet.enc c7)), .d (.list 1 (List.map I c8)), .mp 260017 bo3]), (260017, .map bo3 (List.map (fun p => (.agg [I p.1.fBowler, I p.1.fWeek], .agg [I p.2.fNumber, I p.2.fBowler, I p.2.fWeek, I p.2.fGames.a0, I p.2.fGames.a1, I p.2.fGames.a2])) m1))] fun ae os => ∃ y : Unit, True ∧ ae = .ret (.d (.bool r)) ∧ os = [(10, .cells bo1 [.ptr 260019 bo2 0]), (260019, .cells bo2 [.d (I c1), .d (I c2), .d (I c3), .d (I c4), .d (I c5), .d (.list 1 (List.map I c6)), .d (.list 6 (List.map RateSheet.enc c7)), .d (.list 1 (List.map I c8)), .mp 260017 bo3]), (260017, .map bo3 (List.map (fun p => (.agg [I p.1.fBowler, I p.1.fWeek], .agg [I p.2.fNumber, I p.2.fBowler, I p.2.fWeek, I p.2.fGames.a0, I p.2.fGames.a1, I p.2.fGames.a2])) m1))] := by
  refine acalls_own (fresh := false) tt_ok dr_ok ⟨[], [], [], [], [1], 270000, []⟩ Try.func66 rfl Try.call66 rfl ?_
  unfold rateSpan2 at h
  obtain ⟨is2, hx2, h⟩ := obind h
  conv => whnf
  refine SeqG.mk Unit (fun y => [(6, .d (.bool is2))]) (fun y => [(10, .cells bo1 [.ptr 260019 bo2 0]), (260019, .cells bo2 [.d (I c1), .d (I c2), .d (I c3), .d (I c4), .d (I c5), .d (.list 1 (List.map I c6)), .d (.list 6 (List.map RateSheet.enc c7)), .d (.list 1 (List.map I c8)), .mp 260017 bo3]), (260017, .map bo3 (List.map (fun p => (.agg [I p.1.fBowler, I p.1.fWeek], .agg [I p.2.fNumber, I p.2.fBowler, I p.2.fWeek, I p.2.fGames.a0, I p.2.fGames.a1, I p.2.fGames.a2])) m1))]) (fun _ => True) ?_ ?_
  ·obtain ⟨⟨v2, is3⟩, hx3, hx2⟩ := obind hx2
   conv => whnf
   refine DrawG.mk (.take 0 (.take 1 (.take 2 (.take 3 (.take 4 (.take 5 (.alt 6 [3, 2, 1, 0] (.alt 7 [2, 1, 0] (.take 8 (.take 9 (.take 10 (.alt 11 [10, 9, 8, 2, 1, 0] (.alt 12 [10] (.take 13 .done) .nil) .nil)))) (.alt 11 [3, 2, 1, 0] (.alt 7 [2, 1, 0] (.take 8 (.take 9 (.take 10 (.alt 12 [10] (.take 13 .done) .nil)))) .nil) .nil)) (.alt 11 [5, 4, 3, 2, 1, 0] (.alt 6 [3, 2, 1, 0] (.alt 7 [2, 1, 0] (.take 8 (.take 9 (.take 10 (.alt 12 [10] (.take 13 .done) .nil)))) .nil) .nil) .nil)))))))) (by kernel_rfl) ?_
   conv => whnf
   refine Side.mk rfl ?_
   conv => whnf
   refine Side.mk rfl ?_
   conv => whnf
   refine Both.mk ?_ ?_
   ·conv => whnf
    refine Side.mk rfl ?_
    conv => whnf
    refine Need.mk (AV.le_refl _) ?_
    conv => whnf
    refine Need.mk (AV.le_refl _) ?_
    conv => whnf
    refine Need.mk (AV.le_refl _) ?_
    conv => whnf
    refine Side.mk rfl ?_
    conv => whnf
    refine Need.mk (AV.le_refl _) ?_
    conv => whnf
    refine Both.mk ?_ ?_
    ·conv => whnf
     refine Side.mk rfl (Need.mk rfl (Need.mk (fit_all (fun x : RateTurn => .agg [I x.fBowler, I x.fWeek]) (fun x : RateSheet => .agg [I x.fNumber, I x.fBowler, I x.fWeek, I x.fGames.a0, I x.fGames.a1, I x.fGames.a2]) fun _ => rfl) (LkG.mk (.agg [I v2.fNumber, I v2.fBowler, I v2.fWeek, I v2.fGames.a0, I v2.fGames.a1, I v2.fGames.a2]) is3 (mgt_v (eK := (fun x : RateTurn => .agg [I x.fBowler, I x.fWeek])) (eV := (fun x : RateSheet => .agg [I x.fNumber, I x.fBowler, I x.fWeek, I x.fGames.a0, I x.fGames.a1, I x.fGames.a2])) RateTurn.eqc hx3) (mgt_b (eK := (fun x : RateTurn => .agg [I x.fBowler, I x.fWeek])) (eV := (fun x : RateSheet => .agg [I x.fNumber, I x.fBowler, I x.fWeek, I x.fGames.a0, I x.fGames.a1, I x.fGames.a2])) RateTurn.eqc hx3) ?_)))
     conv => whnf
     refine Need.mk (AV.le_refl _) ?_
     conv => whnf
     refine Need.mk (AV.le_refl _) ?_
     conv => whnf
     refine Side.mk rfl ?_
     conv => whnf
     refine Need.mk (AV.le_refl _) ?_
     conv => whnf
     refine Both.mk ?_ trivial
     conv => whnf
     intro b6
     conv => whnf
     refine Need.mk (AV.le_refl _) ?_
     conv => whnf
     refine Need.mk (AV.le_refl _) ?_
     conv => whnf
     refine Need.mk (AV.le_refl _) ?_
     conv => whnf
     refine Need.mk (AV.le_refl _) ?_
     conv => whnf
     refine Need.mk (AV.le_refl _) ?_
     conv => whnf
     refine Side.mk rfl ?_
     conv => whnf
     refine Need.mk (AV.le_refl _) ?_
     conv => whnf
     refine Both.mk ?_ trivial
     conv => whnf
     refine Side.mk rfl ?_
     conv => whnf
     refine Need.mk (AV.le_refl _) ?_
     cases hx2
     conv => whnf
     refine ⟨(), trivial, Sub.eq rfl ?_ ?_⟩
     ·repeat ((conv => whnf); refine Need.mk rfl ?_)
      exact trivial
     ·conv => whnf
      refine Need.mk (OLe.refl _) ?_
      conv => whnf
      refine Need.mk (OLe.refl _) ?_
      conv => whnf
      refine Need.mk (OLe.refl _) ?_
      exact trivial
    ·conv => whnf
     refine Both.mk ?_ trivial
     conv => whnf
     intro b7
     conv => whnf
     refine Side.mk rfl ?_
     conv => whnf
     refine Need.mk (AV.le_refl _) ?_
     conv => whnf
     refine Need.mk (AV.le_refl _) ?_
     conv => whnf
     refine Need.mk (AV.le_refl _) ?_
     conv => whnf
     refine Side.mk rfl ?_
     conv => whnf
     refine Need.mk (AV.le_refl _) ?_
     conv => whnf
     refine Both.mk ?_ trivial
     conv => whnf
     refine Side.mk rfl (Need.mk rfl (Need.mk (fit_all (fun x : RateTurn => .agg [I x.fBowler, I x.fWeek]) (fun x : RateSheet => .agg [I x.fNumber, I x.fBowler, I x.fWeek, I x.fGames.a0, I x.fGames.a1, I x.fGames.a2]) fun _ => rfl) (LkG.mk (.agg [I v2.fNumber, I v2.fBowler, I v2.fWeek, I v2.fGames.a0, I v2.fGames.a1, I v2.fGames.a2]) is3 (mgt_v (eK := (fun x : RateTurn => .agg [I x.fBowler, I x.fWeek])) (eV := (fun x : RateSheet => .agg [I x.fNumber, I x.fBowler, I x.fWeek, I x.fGames.a0, I x.fGames.a1, I x.fGames.a2])) RateTurn.eqc hx3) (mgt_b (eK := (fun x : RateTurn => .agg [I x.fBowler, I x.fWeek])) (eV := (fun x : RateSheet => .agg [I x.fNumber, I x.fBowler, I x.fWeek, I x.fGames.a0, I x.fGames.a1, I x.fGames.a2])) RateTurn.eqc hx3) ?_)))
     conv => whnf
     refine Need.mk (AV.le_refl _) ?_
     conv => whnf
     refine Need.mk (AV.le_refl _) ?_
     conv => whnf
     refine Side.mk rfl ?_
     conv => whnf
     refine Need.mk (AV.le_refl _) ?_
     conv => whnf
     refine Both.mk ?_ trivial
     conv => whnf
     refine Side.mk rfl ?_
     conv => whnf
     refine Need.mk (AV.le_refl _) ?_
     cases hx2
     conv => whnf
     refine ⟨(), trivial, Sub.eq rfl ?_ ?_⟩
     ·repeat ((conv => whnf); refine Need.mk rfl ?_)
      exact trivial
     ·conv => whnf
      refine Need.mk (OLe.refl _) ?_
      conv => whnf
      refine Need.mk (OLe.refl _) ?_
      conv => whnf
      refine Need.mk (OLe.refl _) ?_
      exact trivial
   ·conv => whnf
    refine Both.mk ?_ trivial
    conv => whnf
    intro b8
    conv => whnf
    refine Need.mk (AV.le_refl _) ?_
    conv => whnf
    refine Need.mk (AV.le_refl _) ?_
    conv => whnf
    refine Side.mk rfl ?_
    conv => whnf
    refine Need.mk (AV.le_refl _) ?_
    conv => whnf
    refine Need.mk (AV.le_refl _) ?_
    conv => whnf
    refine Need.mk (AV.le_refl _) ?_
    conv => whnf
    refine Side.mk rfl ?_
    conv => whnf
    refine Need.mk (AV.le_refl _) ?_
    conv => whnf
    refine Both.mk ?_ trivial
    conv => whnf
    refine Side.mk rfl ?_
    conv => whnf
    refine Need.mk (AV.le_refl _) ?_
    conv => whnf
    refine Need.mk (AV.le_refl _) ?_
    conv => whnf
    refine Need.mk (AV.le_refl _) ?_
    conv => whnf
    refine Side.mk rfl ?_
    conv => whnf
    refine Need.mk (AV.le_refl _) ?_
    conv => whnf
    refine Both.mk ?_ trivial
    conv => whnf
    refine Side.mk rfl (Need.mk rfl (Need.mk (fit_all (fun x : RateTurn => .agg [I x.fBowler, I x.fWeek]) (fun x : RateSheet => .agg [I x.fNumber, I x.fBowler, I x.fWeek, I x.fGames.a0, I x.fGames.a1, I x.fGames.a2]) fun _ => rfl) (LkG.mk (.agg [I v2.fNumber, I v2.fBowler, I v2.fWeek, I v2.fGames.a0, I v2.fGames.a1, I v2.fGames.a2]) is3 (mgt_v (eK := (fun x : RateTurn => .agg [I x.fBowler, I x.fWeek])) (eV := (fun x : RateSheet => .agg [I x.fNumber, I x.fBowler, I x.fWeek, I x.fGames.a0, I x.fGames.a1, I x.fGames.a2])) RateTurn.eqc hx3) (mgt_b (eK := (fun x : RateTurn => .agg [I x.fBowler, I x.fWeek])) (eV := (fun x : RateSheet => .agg [I x.fNumber, I x.fBowler, I x.fWeek, I x.fGames.a0, I x.fGames.a1, I x.fGames.a2])) RateTurn.eqc hx3) ?_)))
    conv => whnf
    refine Need.mk (AV.le_refl _) ?_
    conv => whnf
    refine Need.mk (AV.le_refl _) ?_
    conv => whnf
    refine Side.mk rfl ?_
    conv => whnf
    refine Need.mk (AV.le_refl _) ?_
    conv => whnf
    refine Both.mk ?_ trivial
    conv => whnf
    refine Side.mk rfl ?_
    conv => whnf
    refine Need.mk (AV.le_refl _) ?_
    cases hx2
    conv => whnf
    refine ⟨(), trivial, Sub.eq rfl ?_ ?_⟩
    ·repeat ((conv => whnf); refine Need.mk rfl ?_)
     exact trivial
    ·conv => whnf
     refine Need.mk (OLe.refl _) ?_
     conv => whnf
     refine Need.mk (OLe.refl _) ?_
     conv => whnf
     refine Need.mk (OLe.refl _) ?_
     exact trivial
  ·rintro _ _
   conv => whnf
   cases h
   exact ⟨(), trivial, rfl, inO_at (ren := id) (And.intro rfl (And.intro rfl (And.intro rfl trivial)))⟩

theorem rateAll1XXXXXC {N : Nat} (hN : N ≤ 1073741824) {x1 : Int} {c1 : Int} {c2 : Int} {c3 : Int} {c4 : Int} {c5 : Int} {c6 : Int} {c7 : List Int} {c8 : List RateSheet} {c9 : List Int} {m1 : List (RateTurn × RateSheet)} {bo1 : Nat} {bo2 : Nat} {bo3 : Nat} {bo4 : Nat} {r : Bool} (h : rateAll1XXXXX N x1 c1 c2 c3 c4 c5 c6 c7 c8 c9 m1 = some r) :
    ACalls Try.prog 72 [.d (I x1), .ptr 270003 bo1 0] [(270003, .cells bo1 [.fn (.func 66) [] [.ptr 10 bo2 0, .d (.ref (.agg [I c1]))]]), (10, .cells bo2 [.ptr 260019 bo3 0]), (260019, .cells bo3 [.d (I c2), .d (I c3), .d (I c4), .d (I c5), .d (I c6), .d (.list 1 (List.map I c7)), .d (.list 6 (List.map RateSheet.enc c8)), .d (.list 1 (List.map I c9)), .mp 260017 bo4]), (260017, .map bo4 (List.map (fun p => (.agg [I p.1.fBowler, I p.1.fWeek], .agg [I p.2.fNumber, I p.2.fBowler, I p.2.fWeek, I p.2.fGames.a0, I p.2.fGames.a1, I p.2.fGames.a2])) m1))] fun ae os => ∃ y : Unit, True ∧ ae = .ret (.d (.bool r)) ∧ os = [(270003, .cells bo1 [.fn (.func 66) [] [.ptr 10 bo2 0, .d (.ref (.agg [I c1]))]]), (10, .cells bo2 [.ptr 260019 bo3 0]), (260019, .cells bo3 [.d (I c2), .d (I c3), .d (I c4), .d (I c5), .d (I c6), .d (.list 1 (List.map I c7)), .d (.list 6 (List.map RateSheet.enc c8)), .d (.list 1 (List.map I c9)), .mp 260017 bo4]), (260017, .map bo4 (List.map (fun p => (.agg [I p.1.fBowler, I p.1.fWeek], .agg [I p.2.fNumber, I p.2.fBowler, I p.2.fWeek, I p.2.fGames.a0, I p.2.fGames.a1, I p.2.fGames.a2])) m1))] := by
  refine acalls_own (fresh := false) tt_ok dr_ok ⟨[], [], [], [], [], 280000, []⟩ Try.func72 rfl Try.call72 rfl ?_
  unfold rateAll1XXXXX at h
  conv => whnf
  refine Side.mk rfl ?_
  obtain ⟨r2, hx2, h⟩ := obind h
  conv => whnf
  refine CallG.own (rateSpan2C (bo1 := bo2) (bo2 := bo3) (bo3 := bo4) hN hx2) id [(270003, .cells bo1 [.fn (.func 66) [] [.ptr 10 bo2 0, .d (.ref (.agg [I c1]))]])] _ (fun y => [(10, .cells bo2 [.ptr 260019 bo3 0]), (260019, .cells bo3 [.d (I c2), .d (I c3), .d (I c4), .d (I c5), .d (I c6), .d (.list 1 (List.map I c7)), .d (.list 6 (List.map RateSheet.enc c8)), .d (.list 1 (List.map I c9)), .mp 260017 bo4]), (260017, .map bo4 (List.map (fun p => (.agg [I p.1.fBowler, I p.1.fWeek], .agg [I p.2.fNumber, I p.2.fBowler, I p.2.fWeek, I p.2.fGames.a0, I p.2.fGames.a1, I p.2.fGames.a2])) m1)), (270003, .cells bo1 [.fn (.func 66) [] [.ptr 10 bo2 0, .d (.ref (.agg [I c1]))]])]) (all2_le_refl _) (And.intro rfl (And.intro rfl (And.intro rfl trivial))) rfl (And.intro rfl (And.intro rfl (And.intro rfl trivial))) (And.intro rfl trivial) (fun _ => AV.le_refl _) (fun _ => rfl) ?_
  rintro _ _
  conv => whnf
  cases h
  exact ⟨(), trivial, rfl, inO_at (ren := id) (And.intro rfl (And.intro rfl (And.intro rfl (And.intro rfl trivial))))⟩

theorem slicesIndexFuncXXXXXXC {N : Nat} (hN : N ≤ 1073741824) {s1 : List Int} {c1 : Int} {c2 : Int} {c3 : Int} {c4 : Int} {c5 : Int} {c6 : Int} {c7 : List Int} {c8 : List RateSheet} {c9 : List Int} {m1 : List (RateTurn × RateSheet)} {bo1 : Nat} {bo2 : Nat} {bo3 : Nat} {bo4 : Nat} {r : Int} (h : slicesIndexFuncXXXXXX N s1 c1 c2 c3 c4 c5 c6 c7 c8 c9 m1 = some r) :
    ACalls Try.prog 84 [.d (.list 1 (List.map I s1)), .fn (.func 72) [] [.ptr 270003 bo1 0]] [(270003, .cells bo1 [.fn (.func 66) [] [.ptr 10 bo2 0, .d (.ref (.agg [I c1]))]]), (10, .cells bo2 [.ptr 260019 bo3 0]), (260019, .cells bo3 [.d (I c2), .d (I c3), .d (I c4), .d (I c5), .d (I c6), .d (.list 1 (List.map I c7)), .d (.list 6 (List.map RateSheet.enc c8)), .d (.list 1 (List.map I c9)), .mp 260017 bo4]), (260017, .map bo4 (List.map (fun p => (.agg [I p.1.fBowler, I p.1.fWeek], .agg [I p.2.fNumber, I p.2.fBowler, I p.2.fWeek, I p.2.fGames.a0, I p.2.fGames.a1, I p.2.fGames.a2])) m1))] fun ae os => ∃ y : Unit, True ∧ ae = .ret (.d (I r)) ∧ os = [(270003, .cells bo1 [.fn (.func 66) [] [.ptr 10 bo2 0, .d (.ref (.agg [I c1]))]]), (10, .cells bo2 [.ptr 260019 bo3 0]), (260019, .cells bo3 [.d (I c2), .d (I c3), .d (I c4), .d (I c5), .d (I c6), .d (.list 1 (List.map I c7)), .d (.list 6 (List.map RateSheet.enc c8)), .d (.list 1 (List.map I c9)), .mp 260017 bo4]), (260017, .map bo4 (List.map (fun p => (.agg [I p.1.fBowler, I p.1.fWeek], .agg [I p.2.fNumber, I p.2.fBowler, I p.2.fWeek, I p.2.fGames.a0, I p.2.fGames.a1, I p.2.fGames.a2])) m1))] := by
  refine acalls_own (fresh := false) tt_ok dr_ok ⟨[], [], [], [], [1001], 280000, []⟩ Try.func84 rfl Try.call84 rfl ?_
  unfold slicesIndexFuncXXXXXX at h
  conv => whnf
  refine SeqG.mk Unit (fun y => []) (fun y => [(270003, .cells bo1 [.fn (.func 66) [] [.ptr 10 bo2 0, .d (.ref (.agg [I c1]))]]), (10, .cells bo2 [.ptr 260019 bo3 0]), (260019, .cells bo3 [.d (I c2), .d (I c3), .d (I c4), .d (I c5), .d (I c6), .d (.list 1 (List.map I c7)), .d (.list 6 (List.map RateSheet.enc c8)), .d (.list 1 (List.map I c9)), .mp 260017 bo4]), (260017, .map bo4 (List.map (fun p => (.agg [I p.1.fBowler, I p.1.fWeek], .agg [I p.2.fNumber, I p.2.fBowler, I p.2.fWeek, I p.2.fGames.a0, I p.2.fGames.a1, I p.2.fGames.a2])) m1))]) (fun y => slicesIndexFuncXXXXXX_k1 N = some r) ?_ ?_
  ·conv => whnf
   refine LnA.mk _ (List.length_map _) ?_
   conv => whnf
   refine LoopG.mk (Nat × (Int × Int)) (fun y => [(0, .d (.list 1 (List.map I s1))), (1, .fn (.func 72) [] [.ptr 270003 bo1 0]), (7, .d (I y.2.1)), (8, .d (I y.2.2))]) (fun y => [(270003, .cells bo1 [.fn (.func 66) [] [.ptr 10 bo2 0, .d (.ref (.agg [I c1]))]]), (10, .cells bo2 [.ptr 260019 bo3 0]), (260019, .cells bo3 [.d (I c2), .d (I c3), .d (I c4), .d (I c5), .d (I c6), .d (.list 1 (List.map I c7)), .d (.list 6 (List.map RateSheet.enc c8)), .d (.list 1 (List.map I c9)), .mp 260017 bo4]), (260017, .map bo4 (List.map (fun p => (.agg [I p.1.fBowler, I p.1.fWeek], .agg [I p.2.fNumber, I p.2.fBowler, I p.2.fWeek, I p.2.fGames.a0, I p.2.fGames.a1, I p.2.fGames.a2])) m1))]) (fun y => loopN (fun rr x => slicesIndexFuncXXXXXX_b2 N s1 c1 c2 c3 c4 c5 c6 c7 c8 c9 m1 rr x.1 x.2) y.1 y.2 = some r) (fun y => y.1) (N, ((s1.length : Int), 0)) h (Sub.eq rfl ?_ ?_) ?_
   ·repeat ((conv => whnf); refine Need.mk rfl ?_)
    exact trivial
   ·conv => whnf
    refine Need.mk (OLe.refl _) ?_
    conv => whnf
    refine Need.mk (OLe.refl _) ?_
    conv => whnf
    refine Need.mk (OLe.refl _) ?_
    conv => whnf
    refine Need.mk (OLe.refl _) ?_
    exact trivial
   ·rintro ⟨n2, ⟨v17, v18⟩⟩ hl2
    obtain ⟨n2, rfl, hl2⟩ := loopN_some hl2
    replace hl2 : slicesIndexFuncXXXXXX_b2 N s1 c1 c2 c3 c4 c5 c6 c7 c8 c9 m1 (loopN (fun rr x => slicesIndexFuncXXXXXX_b2 N s1 c1 c2 c3 c4 c5 c6 c7 c8 c9 m1 rr x.1 x.2) n2) v17 v18 = some r := hl2
    rw [slicesIndexFuncXXXXXX_b2] at hl2
    conv => whnf
    refine Br.mk (fun hc22 => ?_) (fun hc22 => ?_)
    ·replace hl2 := ite_t hc22 hl2
     obtain ⟨x24, hx47, hl2⟩ := obind hl2
     conv => whnf
     refine Side.mk rfl ⟨_, idx_0 hx47, idx_map _ hx47, ?_⟩
     obtain ⟨r24, hx48, hl2⟩ := obind hl2
     conv => whnf
     refine CallG.own (rateAll1XXXXXC (bo1 := bo1) (bo2 := bo2) (bo3 := bo3) (bo4 := bo4) hN hx48) id [] _ (fun y => [(270003, .cells bo1 [.fn (.func 66) [] [.ptr 10 bo2 0, .d (.ref (.agg [I c1]))]]), (10, .cells bo2 [.ptr 260019 bo3 0]), (260019, .cells bo3 [.d (I c2), .d (I c3), .d (I c4), .d (I c5), .d (I c6), .d (.list 1 (List.map I c7)), .d (.list 6 (List.map RateSheet.enc c8)), .d (.list 1 (List.map I c9)), .mp 260017 bo4]), (260017, .map bo4 (List.map (fun p => (.agg [I p.1.fBowler, I p.1.fWeek], .agg [I p.2.fNumber, I p.2.fBowler, I p.2.fWeek, I p.2.fGames.a0, I p.2.fGames.a1, I p.2.fGames.a2])) m1))]) (all2_le_refl _) (And.intro rfl (And.intro rfl (And.intro rfl (And.intro rfl trivial)))) rfl (And.intro rfl (And.intro rfl (And.intro rfl (And.intro rfl trivial)))) trivial (fun _ => AV.le_refl _) (fun _ => rfl) ?_
     rintro _ _
     conv => whnf
     refine Br.mk (fun hc24 => ?_) (fun hc24 => ?_)
     ·replace hl2 := ite_t hc24 hl2
      conv => whnf
      cases hl2
      exact ⟨(), trivial, rfl, inO_at (ren := id) (And.intro rfl (And.intro rfl (And.intro rfl (And.intro rfl trivial))))⟩
     ·replace hl2 := ite_f hc24 hl2
      conv => whnf
      refine ⟨(n2, (v17, w64 (v18 + 1))), hl2, Sub.eq rfl ?_ ?_, Nat.lt_succ_self _⟩
      ·repeat ((conv => whnf); refine Need.mk rfl ?_)
       exact trivial
      ·conv => whnf
       refine Need.mk (OLe.refl _) ?_
       conv => whnf
       refine Need.mk (OLe.refl _) ?_
       conv => whnf
       refine Need.mk (OLe.refl _) ?_
       conv => whnf
       refine Need.mk (OLe.refl _) ?_
       exact trivial
    ·replace hl2 := ite_f hc22 hl2
     conv => whnf
     refine ⟨(), hl2, Sub.eq rfl ?_ ?_⟩
     ·repeat ((conv => whnf); refine Need.mk rfl ?_)
      exact trivial
     ·conv => whnf
      refine Need.mk (OLe.refl _) ?_
      conv => whnf
      refine Need.mk (OLe.refl _) ?_
      conv => whnf
      refine Need.mk (OLe.refl _) ?_
      conv => whnf
      refine Need.mk (OLe.refl _) ?_
      exact trivial
  ·clear h
   rintro _ h
   unfold slicesIndexFuncXXXXXX_k1 at h
   conv => whnf
   cases h
   exact ⟨(), trivial, rfl, inO_at (ren := id) (And.intro rfl (And.intro rfl (And.intro rfl (And.intro rfl trivial))))⟩

theorem slicesContainsFuncXXXXXXC {N : Nat} (hN : N ≤ 1073741824) {s1 : List Int} {c1 : Int} {c2 : Int} {c3 : Int} {c4 : Int} {c5 : Int} {c6 : Int} {c7 : List Int} {c8 : List RateSheet} {c9 : List Int} {m1 : List (RateTurn × RateSheet)} {bo1 : Nat} {bo2 : Nat} {bo3 : Nat} {bo4 : Nat} {r : Bool} (h : slicesContainsFuncXXXXXX N s1 c1 c2 c3 c4 c5 c6 c7 c8 c9 m1 = some r) :
    ACalls Try.prog 71 [.d (.list 1 (List.map I s1)), .fn (.func 72) [] [.ptr 270003 bo1 0]] [(270003, .cells bo1 [.fn (.func 66) [] [.ptr 10 bo2 0, .d (.ref (.agg [I c1]))]]), (10, .cells bo2 [.ptr 260019 bo3 0]), (260019, .cells bo3 [.d (I c2), .d (I c3), .d (I c4), .d (I c5), .d (I c6), .d (.list 1 (List.map I c7)), .d (.list 6 (List.map RateSheet.enc c8)), .d (.list 1 (List.map I c9)), .mp 260017 bo4]), (260017, .map bo4 (List.map (fun p => (.agg [I p.1.fBowler, I p.1.fWeek], .agg [I p.2.fNumber, I p.2.fBowler, I p.2.fWeek, I p.2.fGames.a0, I p.2.fGames.a1, I p.2.fGames.a2])) m1))] fun ae os => ∃ y : Unit, True ∧ ae = .ret (.d (.bool r)) ∧ os = [(270003, .cells bo1 [.fn (.func 66) [] [.ptr 10 bo2 0, .d (.ref (.agg [I c1]))]]), (10, .cells bo2 [.ptr 260019 bo3 0]), (260019, .cells bo3 [.d (I c2), .d (I c3), .d (I c4), .d (I c5), .d (I c6), .d (.list 1 (List.map I c7)), .d (.list 6 (List.map RateSheet.enc c8)), .d (.list 1 (List.map I c9)), .mp 260017 bo4]), (260017, .map bo4 (List.map (fun p => (.agg [I p.1.fBowler, I p.1.fWeek], .agg [I p.2.fNumber, I p.2.fBowler, I p.2.fWeek, I p.2.fGames.a0, I p.2.fGames.a1, I p.2.fGames.a2])) m1))] := by
  refine acalls_own (fresh := false) tt_ok dr_ok ⟨[], [], [], [], [], 280000, []⟩ Try.func71 rfl Try.call71 rfl ?_
  unfold slicesContainsFuncXXXXXX at h
  obtain ⟨r2, hx2, h⟩ := obind h
  conv => whnf
  refine CallG.own (slicesIndexFuncXXXXXXC (bo1 := bo1) (bo2 := bo2) (bo3 := bo3) (bo4 := bo4) hN hx2) id [] _ (fun y => [(270003, .cells bo1 [.fn (.func 66) [] [.ptr 10 bo2 0, .d (.ref (.agg [I c1]))]]), (10, .cells bo2 [.ptr 260019 bo3 0]), (260019, .cells bo3 [.d (I c2), .d (I c3), .d (I c4), .d (I c5), .d (I c6), .d (.list 1 (List.map I c7)), .d (.list 6 (List.map RateSheet.enc c8)), .d (.list 1 (List.map I c9)), .mp 260017 bo4]), (260017, .map bo4 (List.map (fun p => (.agg [I p.1.fBowler, I p.1.fWeek], .agg [I p.2.fNumber, I p.2.fBowler, I p.2.fWeek, I p.2.fGames.a0, I p.2.fGames.a1, I p.2.fGames.a2])) m1))]) (all2_le_refl _) (And.intro rfl (And.intro rfl (And.intro rfl (And.intro rfl trivial)))) rfl (And.intro rfl (And.intro rfl (And.intro rfl (And.intro rfl trivial)))) trivial (fun _ => AV.le_refl _) (fun _ => rfl) ?_
  rintro _ _
  conv => whnf
  cases h
  exact ⟨(), trivial, rfl, inO_at (ren := id) (And.intro rfl (And.intro rfl (And.intro rfl (And.intro rfl trivial))))⟩

theorem rateAllXXXXXXC {N : Nat} (hN : N ≤ 1073741824) {l1 : List Int} {right1 : Int} {c1 : Int} {c2 : Int} {c3 : Int} {c4 : Int} {c5 : Int} {c6 : List Int} {c7 : List RateSheet} {c8 : List Int} {m1 : List (RateTurn × RateSheet)} {bo1 : Nat} {bo2 : Nat} {bo3 : Nat} {r : Bool} (h : rateAllXXXXXX N l1 right1 c1 c2 c3 c4 c5 c6 c7 c8 m1 = some r) :
    ACalls Try.prog 45 [.d (.list 1 (List.map I l1)), .fn (.func 66) [] [.ptr 10 bo1 0, .d (.ref (.agg [I right1]))]] [(10, .cells bo1 [.ptr 260019 bo2 0]), (260019, .cells bo2 [.d (I c1), .d (I c2), .d (I c3), .d (I c4), .d (I c5), .d (.list 1 (List.map I c6)), .d (.list 6 (List.map RateSheet.enc c7)), .d (.list 1 (List.map I c8)), .mp 260017 bo3]), (260017, .map bo3 (List.map (fun p => (.agg [I p.1.fBowler, I p.1.fWeek], .agg [I p.2.fNumber, I p.2.fBowler, I p.2.fWeek, I p.2.fGames.a0, I p.2.fGames.a1, I p.2.fGames.a2])) m1))] fun ae os => ∃ y : Unit, True ∧ ae = .ret (.d (.bool r)) ∧ os = [(10, .cells bo1 [.ptr 260019 bo2 0]), (260019, .cells bo2 [.d (I c1), .d (I c2), .d (I c3), .d (I c4), .d (I c5), .d (.list 1 (List.map I c6)), .d (.list 6 (List.map RateSheet.enc c7)), .d (.list 1 (List.map I c8)), .mp 260017 bo3]), (260017, .map bo3 (List.map (fun p => (.agg [I p.1.fBowler, I p.1.fWeek], .agg [I p.2.fNumber, I p.2.fBowler, I p.2.fWeek, I p.2.fGames.a0, I p.2.fGames.a1, I p.2.fGames.a2])) m1))] := by
  refine acalls_own (fresh := false) tt_ok dr_ok ⟨[], [], [], [], [], 270000, []⟩ Try.func45 rfl Try.call45 rfl ?_
  unfold rateAllXXXXXX at h
  conv => whnf
  intro b2
  obtain ⟨r2, hx2, h⟩ := obind h
  conv => whnf
  refine CallG.own (slicesContainsFuncXXXXXXC (bo1 := b2) (bo2 := bo1) (bo3 := bo2) (bo4 := bo3) hN hx2) id [] _ (fun y => [(270003, .cells b2 [.fn (.func 66) [] [.ptr 10 bo1 0, .d (.ref (.agg [I right1]))]]), (10, .cells bo1 [.ptr 260019 bo2 0]), (260019, .cells bo2 [.d (I c1), .d (I c2), .d (I c3), .d (I c4), .d (I c5), .d (.list 1 (List.map I c6)), .d (.list 6 (List.map RateSheet.enc c7)), .d (.list 1 (List.map I c8)), .mp 260017 bo3]), (260017, .map bo3 (List.map (fun p => (.agg [I p.1.fBowler, I p.1.fWeek], .agg [I p.2.fNumber, I p.2.fBowler, I p.2.fWeek, I p.2.fGames.a0, I p.2.fGames.a1, I p.2.fGames.a2])) m1))]) (all2_le_refl _) (And.intro rfl (And.intro rfl (And.intro rfl (And.intro rfl trivial)))) rfl (And.intro rfl (And.intro rfl (And.intro rfl (And.intro rfl trivial)))) trivial (fun _ => AV.le_refl _) (fun _ => rfl) ?_
  rintro _ _
  conv => whnf
  cases h
  exact ⟨(), trivial, rfl, inO_at (ren := id) (And.intro rfl (And.intro rfl (And.intro rfl trivial)))⟩

theorem rateReadWorstC {N : Nat} (hN : N ≤ 1073741824) {c1 : Int} {c2 : Int} {c3 : Int} {c4 : Int} {c5 : Int} {c6 : List Int} {c7 : List RateSheet} {c8 : List Int} {m1 : List (RateTurn × RateSheet)} {bo1 : Nat} {bo2 : Nat} {r : Int} (h : rateReadWorst N c1 c2 c3 c4 c5 c6 c7 c8 m1 = some r) :
    ACalls Try.prog 67 [.ptr 260019 bo1 0] [(260019, .cells bo1 [.d (I c1), .d (I c2), .d (I c3), .d (I c4), .d (I c5), .d (.list 1 (List.map I c6)), .d (.list 6 (List.map RateSheet.enc c7)), .d (.list 1 (List.map I c8)), .mp 260017 bo2]), (260017, .map bo2 (List.map (fun p => (.agg [I p.1.fBowler, I p.1.fWeek], .agg [I p.2.fNumber, I p.2.fBowler, I p.2.fWeek, I p.2.fGames.a0, I p.2.fGames.a1, I p.2.fGames.a2])) m1))] fun ae os => ∃ y : Unit, True ∧ ae = .ret (.d (I r)) ∧ os = [(260019, .cells bo1 [.d (I c1), .d (I c2), .d (I c3), .d (I c4), .d (I c5), .d (.list 1 (List.map I c6)), .d (.list 6 (List.map RateSheet.enc c7)), .d (.list 1 (List.map I c8)), .mp 260017 bo2]), (260017, .map bo2 (List.map (fun p => (.agg [I p.1.fBowler, I p.1.fWeek], .agg [I p.2.fNumber, I p.2.fBowler, I p.2.fWeek, I p.2.fGames.a0, I p.2.fGames.a1, I p.2.fGames.a2])) m1))] := by
  refine acalls_own (fresh := false) tt_ok dr_ok ⟨[], [], [], [], [], 270000, []⟩ Try.func67 rfl Try.call67 rfl ?_
  unfold rateReadWorst at h
  conv => whnf
  cases h
  exact ⟨(), trivial, rfl, inO_at (ren := id) (And.intro rfl (And.intro rfl trivial))⟩

theorem slicesRepeatC {N : Nat} (hN : N ≤ 1073741824) {x1 : List Int} {count1 : Int} {r : (List Int)} (h : slicesRepeat N x1 count1 = some r) :
    ACalls Try.prog 69 [.d (.list 1 (List.map I x1)), .d (I count1)] [] fun e os => ∃ hd, e = .ret (.sl 0 hd) ∧ os = [(0, .arr hd 3 1 false (List.map I r))] := by
  refine acalls_fr tt_ok dr_ok ⟨[], [], [], [], [4, 1008], 0, [41, 44]⟩ Try.func69 rfl Try.call69 rfl ?_
  unfold slicesRepeat at h
  conv => whnf
  refine Br.mk (fun hc2 => ?_) (fun hc2 => ?_)
  ·replace h := ite_t hc2 h
   cases h
  ·replace h := ite_f hc2 h
   conv => whnf
   refine LnA.mk _ (List.length_map _) ?_
   obtain ⟨⟨ra2, rb2⟩, hx2, h⟩ := obind h
   conv => whnf
   refine CallG.pure _ (mulUC hN hx2) ?_
   obtain ⟨v2, hx4, h⟩ := obind h
   conv => whnf
   refine SeqG.mk Unit (fun y => [(0, .d (.list 1 (List.map I x1))), (6, .d (.int .u64 rb2)), (26, .d (.bool v2))]) (fun y => []) (fun _ => True) ?_ ?_
   ·conv => whnf
    refine Br.mk (fun hc7 => ?_) (fun hc7 => ?_)
    ·replace hx4 := ite_f hc7 hx4
     cases hx4
     conv => whnf
     refine ⟨(), trivial, Sub.eq rfl ?_ ?_⟩
     ·repeat ((conv => whnf); refine Need.mk rfl ?_)
      exact trivial
     ·exact trivial
    ·replace hx4 := ite_t hc7 hx4
     cases hx4
     conv => whnf
     refine ⟨(), trivial, Sub.eq rfl ?_ ?_⟩
     ·repeat ((conv => whnf); refine Need.mk rfl ?_)
      exact trivial
     ·exact trivial
   ·rintro _ _
    conv => whnf
    refine Br.mk (fun hc8 => ?_) (fun hc8 => ?_)
    ·replace h := ite_t hc8 h
     cases h
    ·replace h := ite_f hc8 h
     obtain ⟨l2, hx6, h⟩ := obind h
     conv => whnf
     refine Need.mk (mkl_need hN hx6 (by decide)) (Eqv.mk (List.map I l2) (mkl_map _ hx6 rfl) ?_)
     conv => whnf
     intro hd2
     conv => whnf
     refine Side.mk ⟨rfl, rfl⟩ ?_
     conv => whnf
     refine Side.mk rfl ?_
     conv => whnf
     refine Need.mk ⟨Nat.zero_le _, Nat.le_refl _⟩ (Eqv.mk (List.map I (cpyL l2 0 (l2.length) x1)) (cpyE rfl (List.length_map _)) (LnN.mk _ (cpyC (f := I) (ys := x1) rfl (List.length_map _)) ?_))
     obtain ⟨l14, hx13, h⟩ := obind h
     conv => whnf
     refine SeqG.mk Unit (fun y => [(7, .sl 30 hd2)]) (fun y => [(30, .arr hd2 3 1 false (List.map I l14))]) (fun _ => True) ?_ ?_
     ·conv => whnf
      refine LoopG.mk (Nat × (Int × (List Int))) (fun y => [(7, .sl 30 hd2), (8, .d (I y.2.1))]) (fun y => [(30, .arr hd2 3 1 false (List.map I y.2.2))]) (fun y => loopN (fun rr x => slicesRepeat_b2 N rr x.1 x.2) y.1 y.2 = some l14) (fun y => y.1) (N, ((cpyN 0 (l2.length) x1.length : Int), (cpyL l2 0 (l2.length) x1))) hx13 (Sub.eq rfl ?_ ?_) ?_
      ·repeat ((conv => whnf); refine Need.mk rfl ?_)
       exact trivial
      ·conv => whnf
       refine Need.mk (OLe.refl _) ?_
       exact trivial
      ·rintro ⟨n12, ⟨n11, l23⟩⟩ hl2
       obtain ⟨n12, rfl, hl2⟩ := loopN_some hl2
       replace hl2 : slicesRepeat_b2 N (loopN (fun rr x => slicesRepeat_b2 N rr x.1 x.2) n12) n11 l23 = some l14 := hl2
       rw [slicesRepeat_b2] at hl2
       conv => whnf
       refine SeqG.mk Unit (fun y => [(7, .sl 30 hd2), (8, .d (I n11))]) (fun y => [(30, .arr hd2 3 1 false (List.map I l23))]) (fun y => slicesRepeat_k1 N n11 l23 (loopN (fun rr x => slicesRepeat_b2 N rr x.1 x.2) n12) = some l14) ?_ ?_
       ·conv => whnf
        refine Side.mk rfl (LnA.mk _ (List.length_map _) ?_)
        conv => whnf
        refine Br.mk (fun hc20 => ?_) (fun hc20 => ?_)
        ·replace hl2 := ite_t hc20 hl2
         conv => whnf
         refine ⟨(), hl2, Sub.eq rfl ?_ ?_⟩
         ·repeat ((conv => whnf); refine Need.mk rfl ?_)
          exact trivial
         ·conv => whnf
          refine Need.mk (OLe.refl _) ?_
          exact trivial
        ·replace hl2 := ite_f hc20 hl2
         cases hl2
         conv => whnf
         refine ⟨(), trivial, Sub.eq rfl ?_ ?_⟩
         ·repeat ((conv => whnf); refine Need.mk rfl ?_)
          exact trivial
         ·conv => whnf
          refine Need.mk (OLe.refl _) ?_
          exact trivial
       ·rintro _ h
        unfold slicesRepeat_k1 at h
        obtain ⟨l24, hx18, h⟩ := obind h
        obtain ⟨l25, hx19, h⟩ := obind h
        conv => whnf
        refine DrawG.mk (.take 0 (.take 1 (.take 2 (.take 4 (.take 5 (.alt 3 [5, 4, 0] (.alt 6 [0] (.alt 7 [0] (.take 8 (.alt 9 [] .done .nil)) .nil) .nil) (.alt 6 [2, 1, 0] (.alt 3 [0] (.alt 7 [0] (.take 8 (.alt 9 [] .done .nil)) .nil) .nil) .nil))))))) (by kernel_rfl) ?_
        conv => whnf
        refine Both.mk ?_ ?_
        ·conv => whnf
         refine Side.mk rfl (Need.mk (slc_needL _ hx18) ?_)
         conv => whnf
         refine Need.mk (AV.le_refl _) ?_
         conv => whnf
         refine Need.mk (AV.le_refl _) ?_
         conv => whnf
         refine Need.mk (AV.le_refl _) ?_
         conv => whnf
         refine Both.mk ?_ trivial
         conv => whnf
         refine Side.mk rfl (Need.mk (slc_need _ hx19) ?_)
         conv => whnf
         refine Need.mk (AV.le_refl _) ?_
         conv => whnf
         refine Both.mk ?_ trivial
         conv => whnf
         refine Side.mk ⟨rfl, rfl, rfl⟩ ?_
         conv => whnf
         refine Side.mk ⟨rfl, rfl, rfl⟩ (Need.mk (slc_nat _ hx19) ?_)
         conv => whnf
         refine Need.mk (slc_natL _ hx18) (Eqv.mk (List.map I (cpyL l23 (Int.toNat n11) (Int.toNat (l23.length : Int)) l25)) (cpyE (slc_map _ hx19) (congrArg (fun n : Nat => Int.toNat (n : Int)) (List.length_map _))) (LnN.mk _ (cpyC (f := I) (ys := l25) (slc_map _ hx19) (congrArg (fun n : Nat => Int.toNat (n : Int)) (List.length_map _))) ?_))
         conv => whnf
         refine Need.mk (AV.le_refl _) ?_
         conv => whnf
         refine Both.mk ?_ trivial
         conv => whnf
         refine ⟨(n12, (w64 (n11 + ((cpyN (Int.toNat n11) (Int.toNat (l23.length : Int)) l25.length : Int))), (cpyL l23 (Int.toNat n11) (Int.toNat (l23.length : Int)) l25))), h, Sub.eq rfl ?_ ?_, Nat.lt_succ_self _⟩
         ·repeat ((conv => whnf); refine Need.mk rfl ?_)
          exact trivial
         ·conv => whnf
          refine Need.mk (OLe.refl _) ?_
          exact trivial
        ·conv => whnf
         refine Both.mk ?_ trivial
         conv => whnf
         refine Side.mk rfl (Need.mk (slc_need _ hx19) ?_)
         conv => whnf
         refine Need.mk (AV.le_refl _) ?_
         conv => whnf
         refine Need.mk (AV.le_refl _) ?_
         conv => whnf
         refine Need.mk (AV.le_refl _) ?_
         conv => whnf
         refine Both.mk ?_ trivial
         conv => whnf
         refine Side.mk rfl (Need.mk (slc_needL _ hx18) ?_)
         conv => whnf
         refine Need.mk (AV.le_refl _) ?_
         conv => whnf
         refine Both.mk ?_ trivial
         conv => whnf
         refine Side.mk ⟨rfl, rfl, rfl⟩ ?_
         conv => whnf
         refine Side.mk ⟨rfl, rfl, rfl⟩ (Need.mk (slc_nat _ hx19) ?_)
         conv => whnf
         refine Need.mk (slc_natL _ hx18) (Eqv.mk (List.map I (cpyL l23 (Int.toNat n11) (Int.toNat (l23.length : Int)) l25)) (cpyE (slc_map _ hx19) (congrArg (fun n : Nat => Int.toNat (n : Int)) (List.length_map _))) (LnN.mk _ (cpyC (f := I) (ys := l25) (slc_map _ hx19) (congrArg (fun n : Nat => Int.toNat (n : Int)) (List.length_map _))) ?_))
         conv => whnf
         refine Need.mk (AV.le_refl _) ?_
         conv => whnf
         refine Both.mk ?_ trivial
         conv => whnf
         refine ⟨(n12, (w64 (n11 + ((cpyN (Int.toNat n11) (Int.toNat (l23.length : Int)) l25.length : Int))), (cpyL l23 (Int.toNat n11) (Int.toNat (l23.length : Int)) l25))), h, Sub.eq rfl ?_ ?_, Nat.lt_succ_self _⟩
         ·repeat ((conv => whnf); refine Need.mk rfl ?_)
          exact trivial
         ·conv => whnf
          refine Need.mk (OLe.refl _) ?_
          exact trivial
     ·rintro _ _
      conv => whnf
      cases h
      exact ⟨_, _, rfl, rfl⟩

theorem rateReadBestC {N : Nat} (hN : N ≤ 1073741824) {c1 : Int} {c2 : Int} {c3 : Int} {c4 : Int} {c5 : Int} {c6 : List Int} {c7 : List RateSheet} {c8 : List Int} {m1 : List (RateTurn × RateSheet)} {bo1 : Nat} {bo2 : Nat} {r : Int} (h : rateReadBest N c1 c2 c3 c4 c5 c6 c7 c8 m1 = some r) :
    ACalls Try.prog 68 [.ptr 260019 bo1 0] [(260019, .cells bo1 [.d (I c1), .d (I c2), .d (I c3), .d (I c4), .d (I c5), .d (.list 1 (List.map I c6)), .d (.list 6 (List.map RateSheet.enc c7)), .d (.list 1 (List.map I c8)), .mp 260017 bo2]), (260017, .map bo2 (List.map (fun p => (.agg [I p.1.fBowler, I p.1.fWeek], .agg [I p.2.fNumber, I p.2.fBowler, I p.2.fWeek, I p.2.fGames.a0, I p.2.fGames.a1, I p.2.fGames.a2])) m1))] fun ae os => ∃ y : Unit, True ∧ ae = .ret (.d (I r)) ∧ os = [(260019, .cells bo1 [.d (I c1), .d (I c2), .d (I c3), .d (I c4), .d (I c5), .d (.list 1 (List.map I c6)), .d (.list 6 (List.map RateSheet.enc c7)), .d (.list 1 (List.map I c8)), .mp 260017 bo2]), (260017, .map bo2 (List.map (fun p => (.agg [I p.1.fBowler, I p.1.fWeek], .agg [I p.2.fNumber, I p.2.fBowler, I p.2.fWeek, I p.2.fGames.a0, I p.2.fGames.a1, I p.2.fGames.a2])) m1))] := by
  refine acalls_own (fresh := false) tt_ok dr_ok ⟨[], [], [], [], [], 270000, []⟩ Try.func68 rfl Try.call68 rfl ?_
  unfold rateReadBest at h
  conv => whnf
  cases h
  exact ⟨(), trivial, rfl, inO_at (ren := id) (And.intro rfl (And.intro rfl trivial))⟩
end Go.Proofs.Ytmencjafjcmbaaa
