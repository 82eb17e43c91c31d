/-
  Walks: what the typed functions compute, the program’s functions return.
-/
import Derived.Test.YtmencjafjcmbaaaWe
namespace Go.Proofs.Ytmencjafjcmbaaa
open Go Go.Abs Go.Kp
set_option maxRecDepth 100000
set_option maxHeartbeats 8000000
set_option linter.all false

theorem law07ThinC {N : Nat} (hN : N ≤ 1073741824) {b1 : Ref07Book} {r : Bool} (h : law07Thin N b1 = some r) :
    ACalls Try.prog 17 [.d (.agg [I b1.fLaw.fBase, I b1.fLaw.fPercent, I b1.fLaw.fCap, I b1.fLaw.fLeast, I b1.fLaw.fBlind, .list 1 (List.map I b1.fBowlers), .list 6 (List.map Ref07Sheet.enc b1.fSheets), .list 1 (List.map I b1.fWithdrawn)])] [] fun e os => e = .ret (.d (.bool r)) ∧ os = [] := by
  refine acalls_f (fresh := false) tt_ok dr_ok ⟨[1], [], [], [], [1], 0, []⟩ Try.func17 rfl Try.call17 rfl ?_
  unfold law07Thin at h
  obtain ⟨v1, hx1, h⟩ := obind h
  conv => whnf
  refine SeqG.mk Unit (fun y => [(2, .d (.bool v1))]) (fun y => []) (fun _ => True) ?_ ?_
  ·conv => whnf
   refine LnA.mk _ (List.length_map _) ?_
   conv => whnf
   refine Br.mk (fun hc3 => ?_) (fun hc3 => ?_)
   ·replace hx1 := ite_t hc3 hx1
    conv => whnf
    refine LnA.mk _ (List.length_map _) ?_
    conv => whnf
    refine Br.mk (fun hc4 => ?_) (fun hc4 => ?_)
    ·replace hx1 := ite_t hc4 hx1
     conv => whnf
     refine LnA.mk _ (List.length_map _) ?_
     cases hx1
     conv => whnf
     refine ⟨(), trivial, Sub.eq rfl ?_ ?_⟩
     ·repeat ((conv => whnf); refine Need.mk rfl ?_)
      exact trivial
     ·exact trivial
    ·replace hx1 := ite_f hc4 hx1
     cases hx1
     conv => whnf
     refine ⟨(), trivial, Sub.eq rfl ?_ ?_⟩
     ·repeat ((conv => whnf); refine Need.mk rfl ?_)
      exact trivial
     ·exact trivial
   ·replace hx1 := ite_f hc3 hx1
    cases hx1
    conv => whnf
    refine ⟨(), trivial, Sub.eq rfl ?_ ?_⟩
    ·repeat ((conv => whnf); refine Need.mk rfl ?_)
     exact trivial
    ·exact trivial
  ·rintro _ _
   conv => whnf
   cases h
   exact rfl

theorem law07SeasonC {N : Nat} (hN : N ≤ 1073741824)  {r : Int × Int × Int × Int × Int × (List Int) × (List RateSheet)} (h : law07Season N = some r) :
    ACalls Try.prog 37 [] [] fun ae os => ∃ y : Value × Value, True ∧ ae = .ret (.agg [.d (I r.1), .d (I r.2.1), .d (I r.2.2.1), .d (I r.2.2.2.1), .d (I r.2.2.2.2.1), .sl 190002 y.1, .sl 190011 y.2, .nils 1]) ∧ os = [(190002, .arr y.1 3 1 false (List.map I r.2.2.2.2.2.1)), (190011, .arr y.2 65 6 false (List.map RateSheet.enc r.2.2.2.2.2.2))] := by
  refine acalls_own (fresh := true) tt_ok dr_ok ⟨[], [], [1, 3, 4, 5, 6, 7, 8, 9, 10, 12], [], [], 190000, []⟩ Try.func37 rfl Try.call37 rfl ?_
  unfold law07Season at h
  conv => whnf
  intro b2
  conv => whnf
  intro hd3
  conv => whnf
  intro hd4
  conv => whnf
  refine Side.mk rfl ?_
  conv => whnf
  refine Side.mk rfl ?_
  conv => whnf
  cases h
  exact ⟨(hd3, hd4), trivial, rfl, inO_at (ren := id) (And.intro rfl (And.intro rfl trivial))⟩

theorem rateWithinC {N : Nat} (hN : N ≤ 1073741824) {n1 : Int} {low1 : Int} {high1 : Int} {r : Bool} (h : rateWithin N n1 low1 high1 = some r) :
    ACalls Try.prog 65 [.d (I n1), .d (I low1), .d (I high1)] [] fun e os => e = .ret (.d (.bool r)) ∧ os = [] := by
  refine acalls_f (fresh := false) tt_ok dr_ok ⟨[], [], [], [], [1], 0, []⟩ Try.func65 rfl Try.call65 rfl ?_
  unfold rateWithin at h
  obtain ⟨v1, hx1, h⟩ := obind h
  conv => whnf
  refine SeqG.mk Unit (fun y => [(6, .d (.bool v1))]) (fun y => []) (fun _ => True) ?_ ?_
  ·conv => whnf
   refine Br.mk (fun hc2 => ?_) (fun hc2 => ?_)
   ·replace hx1 := ite_t hc2 hx1
    cases hx1
    conv => whnf
    refine ⟨(), trivial, Sub.eq rfl ?_ ?_⟩
    ·repeat ((conv => whnf); refine Need.mk rfl ?_)
     exact trivial
    ·exact trivial
   ·replace hx1 := ite_f hc2 hx1
    cases hx1
    conv => whnf
    refine ⟨(), trivial, Sub.eq rfl ?_ ?_⟩
    ·repeat ((conv => whnf); refine Need.mk rfl ?_)
     exact trivial
    ·exact trivial
  ·rintro _ _
   conv => whnf
   cases h
   exact rfl

theorem rateCountC {N : Nat} (hN : N ≤ 1073741824) {n1 : Int} {r : Bool} (h : rateCount N n1 = some r) :
    ACalls Try.prog 46 [.d (I n1)] [] fun e os => e = .ret (.d (.bool r)) ∧ os = [] := by
  refine acalls_f (fresh := false) tt_ok dr_ok ⟨[], [], [], [], [], 0, []⟩ Try.func46 rfl Try.call46 rfl ?_
  unfold rateCount at h
  obtain ⟨r2, hx2, h⟩ := obind h
  conv => whnf
  refine CallG.pure _ (rateWithinC hN hx2) ?_
  conv => whnf
  cases h
  exact rfl

theorem rateLawValidC {N : Nat} (hN : N ≤ 1073741824) {l1 : RateLaw} {r : Bool} (h : rateLawValid N l1 = some r) :
    ACalls Try.prog 44 [.d (.agg [I l1.fBase, I l1.fPercent, I l1.fCap, I l1.fLeast, I l1.fBlind])] [] fun e os => e = .ret (.d (.bool r)) ∧ os = [] := by
  refine acalls_f (fresh := false) tt_ok dr_ok ⟨[1], [], [], [], [1], 0, []⟩ Try.func44 rfl Try.call44 rfl ?_
  unfold rateLawValid at h
  obtain ⟨v1, hx6, h⟩ := obind h
  conv => whnf
  refine SeqG.mk Unit (fun y => [(2, .d (.bool v1))]) (fun y => []) (fun _ => True) ?_ ?_
  ·obtain ⟨r6, hx7, hx6⟩ := obind hx6
   conv => whnf
   refine CallG.pure _ (rateCountC hN hx7) ?_
   conv => whnf
   refine Br.mk (fun hc5 => ?_) (fun hc5 => ?_)
   ·replace hx6 := ite_t hc5 hx6
    obtain ⟨r7, hx8, hx6⟩ := obind hx6
    conv => whnf
    refine CallG.pure _ (rateWithinC hN hx8) ?_
    conv => whnf
    refine Br.mk (fun hc6 => ?_) (fun hc6 => ?_)
    ·replace hx6 := ite_t hc6 hx6
     obtain ⟨r8, hx9, hx6⟩ := obind hx6
     conv => whnf
     refine CallG.pure _ (rateCountC hN hx9) ?_
     conv => whnf
     refine Br.mk (fun hc7 => ?_) (fun hc7 => ?_)
     ·replace hx6 := ite_t hc7 hx6
      obtain ⟨r9, hx10, hx6⟩ := obind hx6
      conv => whnf
      refine CallG.pure _ (rateWithinC hN hx10) ?_
      conv => whnf
      refine Br.mk (fun hc8 => ?_) (fun hc8 => ?_)
      ·replace hx6 := ite_t hc8 hx6
       obtain ⟨r10, hx11, hx6⟩ := obind hx6
       conv => whnf
       refine CallG.pure _ (rateCountC hN hx11) ?_
       cases hx6
       conv => whnf
       refine ⟨(), trivial, Sub.eq rfl ?_ ?_⟩
       ·repeat ((conv => whnf); refine Need.mk rfl ?_)
        exact trivial
       ·exact trivial
      ·replace hx6 := ite_f hc8 hx6
       cases hx6
       conv => whnf
       refine ⟨(), trivial, Sub.eq rfl ?_ ?_⟩
       ·repeat ((conv => whnf); refine Need.mk rfl ?_)
        exact trivial
       ·exact trivial
     ·replace hx6 := ite_f hc7 hx6
      cases hx6
      conv => whnf
      refine ⟨(), trivial, Sub.eq rfl ?_ ?_⟩
      ·repeat ((conv => whnf); refine Need.mk rfl ?_)
       exact trivial
      ·exact trivial
    ·replace hx6 := ite_f hc6 hx6
     cases hx6
     conv => whnf
     refine ⟨(), trivial, Sub.eq rfl ?_ ?_⟩
     ·repeat ((conv => whnf); refine Need.mk rfl ?_)
      exact trivial
     ·exact trivial
   ·replace hx6 := ite_f hc5 hx6
    cases hx6
    conv => whnf
    refine ⟨(), trivial, Sub.eq rfl ?_ ?_⟩
    ·repeat ((conv => whnf); refine Need.mk rfl ?_)
     exact trivial
    ·exact trivial
  ·rintro _ _
   conv => whnf
   cases h
   exact rfl

theorem rateAll1C {N : Nat} (hN : N ≤ 1073741824) {x1 : Int} {r : Bool} (h : rateAll1 N x1 = some r) :
    ACalls Try.prog 72 [.d (I x1), .d (.ref (.agg [.fn (.func 46) [] []]))] [] fun e os => e = .ret (.d (.bool r)) ∧ os = [] := by
  refine acalls_f (fresh := false) tt_ok dr_ok ⟨[], [], [], [], [], 0, []⟩ Try.func72 rfl Try.call72 rfl ?_
  unfold rateAll1 at h
  obtain ⟨r2, hx2, h⟩ := obind h
  conv => whnf
  refine CallG.pure _ (rateCountC hN hx2) ?_
  conv => whnf
  cases h
  exact rfl

theorem slicesIndexFuncC {N : Nat} (hN : N ≤ 1073741824) {s1 : List Int} {r : Int} (h : slicesIndexFunc N s1 = some r) :
    ACalls Try.prog 84 [.d (.list 1 (List.map I s1)), .d (.fn (.func 72) [] [.ref (.agg [.fn (.func 46) [] []])])] [] fun e os => e = .ret (.d (I r)) ∧ os = [] := by
  refine acalls_f (fresh := false) tt_ok dr_ok ⟨[], [], [], [], [1001], 0, []⟩ Try.func84 rfl Try.call84 rfl ?_
  unfold slicesIndexFunc at h
  conv => whnf
  refine SeqG.mk Unit (fun y => []) (fun y => []) (fun y => slicesIndexFunc_k1 N = some r) ?_ ?_
  ·conv => whnf
   refine LnA.mk _ (List.length_map _) ?_
   conv => whnf
   refine LoopG.mk (Nat × (Int × Int)) (fun y => [(0, .d (.list 1 (List.map I s1))), (1, .d (.fn (.func 72) [] [.ref (.agg [.fn (.func 46) [] []])])), (7, .d (I y.2.1)), (8, .d (I y.2.2))]) (fun y => []) (fun y => loopN (fun rr x => slicesIndexFunc_b2 N s1 rr x.1 x.2) y.1 y.2 = some r) (fun y => y.1) (N, ((s1.length : Int), 0)) h (Sub.eq rfl ?_ ?_) ?_
   ·repeat ((conv => whnf); refine Need.mk rfl ?_)
    exact trivial
   ·exact trivial
   ·rintro ⟨n2, ⟨v17, v18⟩⟩ hl2
    obtain ⟨n2, rfl, hl2⟩ := loopN_some hl2
    replace hl2 : slicesIndexFunc_b2 N s1 (loopN (fun rr x => slicesIndexFunc_b2 N s1 rr x.1 x.2) n2) v17 v18 = some r := hl2
    rw [slicesIndexFunc_b2] at hl2
    conv => whnf
    refine Br.mk (fun hc22 => ?_) (fun hc22 => ?_)
    ·replace hl2 := ite_t hc22 hl2
     obtain ⟨x24, hx47, hl2⟩ := obind hl2
     conv => whnf
     refine Side.mk rfl ⟨_, idx_0 hx47, idx_map _ hx47, ?_⟩
     obtain ⟨r24, hx48, hl2⟩ := obind hl2
     conv => whnf
     refine CallG.pure _ (rateAll1C hN hx48) ?_
     conv => whnf
     refine Br.mk (fun hc24 => ?_) (fun hc24 => ?_)
     ·replace hl2 := ite_t hc24 hl2
      conv => whnf
      cases hl2
      exact rfl
     ·replace hl2 := ite_f hc24 hl2
      conv => whnf
      refine ⟨(n2, (v17, w64 (v18 + 1))), hl2, Sub.eq rfl ?_ ?_, Nat.lt_succ_self _⟩
      ·repeat ((conv => whnf); refine Need.mk rfl ?_)
       exact trivial
      ·exact trivial
    ·replace hl2 := ite_f hc22 hl2
     conv => whnf
     refine ⟨(), hl2, Sub.eq rfl ?_ ?_⟩
     ·repeat ((conv => whnf); refine Need.mk rfl ?_)
      exact trivial
     ·exact trivial
  ·clear h
   rintro _ h
   unfold slicesIndexFunc_k1 at h
   conv => whnf
   cases h
   exact rfl

theorem slicesContainsFuncC {N : Nat} (hN : N ≤ 1073741824) {s1 : List Int} {r : Bool} (h : slicesContainsFunc N s1 = some r) :
    ACalls Try.prog 71 [.d (.list 1 (List.map I s1)), .d (.fn (.func 72) [] [.ref (.agg [.fn (.func 46) [] []])])] [] fun e os => e = .ret (.d (.bool r)) ∧ os = [] := by
  refine acalls_f (fresh := false) tt_ok dr_ok ⟨[], [], [], [], [], 0, []⟩ Try.func71 rfl Try.call71 rfl ?_
  unfold slicesContainsFunc at h
  obtain ⟨r2, hx2, h⟩ := obind h
  conv => whnf
  refine CallG.pure _ (slicesIndexFuncC hN hx2) ?_
  conv => whnf
  cases h
  exact rfl

theorem rateAllC {N : Nat} (hN : N ≤ 1073741824) {l1 : List Int} {r : Bool} (h : rateAll N l1 = some r) :
    ACalls Try.prog 45 [.d (.list 1 (List.map I l1)), .d (.fn (.func 46) [] [])] [] fun e os => e = .ret (.d (.bool r)) ∧ os = [] := by
  refine acalls_f (fresh := false) tt_ok dr_ok ⟨[3], [], [], [], [], 0, []⟩ Try.func45 rfl Try.call45 rfl ?_
  unfold rateAll at h
  obtain ⟨r2, hx2, h⟩ := obind h
  conv => whnf
  refine CallG.pure _ (slicesContainsFuncC hN hx2) ?_
  conv => whnf
  cases h
  exact rfl

theorem rateNumberC {N : Nat} (hN : N ≤ 1073741824) {n1 : Int} {r : Bool} (h : rateNumber N n1 = some r) :
    ACalls Try.prog 49 [.d (I n1)] [] fun e os => e = .ret (.d (.bool r)) ∧ os = [] := by
  refine acalls_f (fresh := false) tt_ok dr_ok ⟨[], [], [], [], [], 0, []⟩ Try.func49 rfl Try.call49 rfl ?_
  unfold rateNumber at h
  obtain ⟨r2, hx2, h⟩ := obind h
  conv => whnf
  refine CallG.pure _ (rateWithinC hN hx2) ?_
  conv => whnf
  cases h
  exact rfl

theorem rateBookBowlerC {N : Nat} (hN : N ≤ 1073741824) {b1 : RateBook} {n1 : Int} {r : Bool} (h : rateBookBowler N b1 n1 = some r) :
    ACalls Try.prog 75 [.d (.agg [I b1.fLaw.fBase, I b1.fLaw.fPercent, I b1.fLaw.fCap, I b1.fLaw.fLeast, I b1.fLaw.fBlind, .list 1 (List.map I b1.fBowlers), .list 6 (List.map RateSheet.enc b1.fSheets), .list 1 (List.map I b1.fWithdrawn)]), .d (I n1)] [] fun e os => e = .ret (.d (.bool r)) ∧ os = [] := by
  refine acalls_f (fresh := false) tt_ok dr_ok ⟨[2], [], [], [], [], 0, []⟩ Try.func75 rfl Try.call75 rfl ?_
  unfold rateBookBowler at h
  conv => whnf
  refine LnA.mk _ (List.length_map _) ?_
  obtain ⟨r2, hx2, h⟩ := obind h
  conv => whnf
  refine CallG.pure _ (rateWithinC hN hx2) ?_
  conv => whnf
  cases h
  exact rfl

theorem rateWeekC {N : Nat} (hN : N ≤ 1073741824) {n1 : Int} {r : Bool} (h : rateWeek N n1 = some r) :
    ACalls Try.prog 57 [.d (I n1)] [] fun e os => e = .ret (.d (.bool r)) ∧ os = [] := by
  refine acalls_f (fresh := false) tt_ok dr_ok ⟨[], [], [], [], [], 0, []⟩ Try.func57 rfl Try.call57 rfl ?_
  unfold rateWeek at h
  obtain ⟨r2, hx2, h⟩ := obind h
  conv => whnf
  refine CallG.pure _ (rateWithinC hN hx2) ?_
  conv => whnf
  cases h
  exact rfl

theorem rateBookSheetC {N : Nat} (hN : N ≤ 1073741824) {b1 : RateBook} {s1 : RateSheet} {r : Bool} (h : rateBookSheet N b1 s1 = some r) :
    ACalls Try.prog 48 [.d (.agg [I b1.fLaw.fBase, I b1.fLaw.fPercent, I b1.fLaw.fCap, I b1.fLaw.fLeast, I b1.fLaw.fBlind, .list 1 (List.map I b1.fBowlers), .list 6 (List.map RateSheet.enc b1.fSheets), .list 1 (List.map I b1.fWithdrawn)]), .d (.agg [I s1.fNumber, I s1.fBowler, I s1.fWeek, I s1.fGames.a0, I s1.fGames.a1, I s1.fGames.a2])] [] fun e os => e = .ret (.d (.bool r)) ∧ os = [] := by
  refine acalls_f (fresh := false) tt_ok dr_ok ⟨[2, 3], [], [], [], [1], 0, []⟩ Try.func48 rfl Try.call48 rfl ?_
  unfold rateBookSheet at h
  obtain ⟨v1, hx5, h⟩ := obind h
  conv => whnf
  refine SeqG.mk Unit (fun y => [(4, .d (.bool v1))]) (fun y => []) (fun _ => True) ?_ ?_
  ·obtain ⟨r5, hx6, hx5⟩ := obind hx5
   conv => whnf
   refine CallG.pure _ (rateNumberC hN hx6) ?_
   conv => whnf
   refine Br.mk (fun hc4 => ?_) (fun hc4 => ?_)
   ·replace hx5 := ite_t hc4 hx5
    obtain ⟨r6, hx7, hx5⟩ := obind hx5
    conv => whnf
    refine CallG.pure _ (rateBookBowlerC hN hx7) ?_
    conv => whnf
    refine Br.mk (fun hc5 => ?_) (fun hc5 => ?_)
    ·replace hx5 := ite_t hc5 hx5
     obtain ⟨r7, hx8, hx5⟩ := obind hx5
     conv => whnf
     refine CallG.pure _ (rateWeekC hN hx8) ?_
     conv => whnf
     refine Br.mk (fun hc6 => ?_) (fun hc6 => ?_)
     ·replace hx5 := ite_t hc6 hx5
      conv => whnf
      refine ArrS.mk (List.map I [s1.fGames.a0, s1.fGames.a1, s1.fGames.a2]) rfl rfl (map_cells _ fun _ => rfl) ?_
      obtain ⟨r8, hx9, hx5⟩ := obind hx5
      conv => whnf
      refine CallG.pure _ (rateAllC hN hx9) ?_
      cases hx5
      conv => whnf
      refine ⟨(), trivial, Sub.eq rfl ?_ ?_⟩
      ·repeat ((conv => whnf); refine Need.mk rfl ?_)
       exact trivial
      ·exact trivial
     ·replace hx5 := ite_f hc6 hx5
      cases hx5
      conv => whnf
      refine ⟨(), trivial, Sub.eq rfl ?_ ?_⟩
      ·repeat ((conv => whnf); refine Need.mk rfl ?_)
       exact trivial
      ·exact trivial
    ·replace hx5 := ite_f hc5 hx5
     cases hx5
     conv => whnf
     refine ⟨(), trivial, Sub.eq rfl ?_ ?_⟩
     ·repeat ((conv => whnf); refine Need.mk rfl ?_)
      exact trivial
     ·exact trivial
   ·replace hx5 := ite_f hc4 hx5
    cases hx5
    conv => whnf
    refine ⟨(), trivial, Sub.eq rfl ?_ ?_⟩
    ·repeat ((conv => whnf); refine Need.mk rfl ?_)
     exact trivial
    ·exact trivial
  ·rintro _ _
   conv => whnf
   cases h
   exact rfl

theorem rateAll1XC {N : Nat} (hN : N ≤ 1073741824) {x1 : RateSheet} {a1 : RateBook} {r : Bool} (h : rateAll1X N x1 a1 = some r) :
    ACalls Try.prog 74 [.d (.agg [I x1.fNumber, I x1.fBowler, I x1.fWeek, I x1.fGames.a0, I x1.fGames.a1, I x1.fGames.a2]), .d (.ref (.agg [.fn (.func 48) [.agg [I a1.fLaw.fBase, I a1.fLaw.fPercent, I a1.fLaw.fCap, I a1.fLaw.fLeast, I a1.fLaw.fBlind, .list 1 (List.map I a1.fBowlers), .list 6 (List.map RateSheet.enc a1.fSheets), .list 1 (List.map I a1.fWithdrawn)]] []]))] [] fun e os => e = .ret (.d (.bool r)) ∧ os = [] := by
  refine acalls_f (fresh := false) tt_ok dr_ok ⟨[2], [], [], [], [], 0, []⟩ Try.func74 rfl Try.call74 rfl ?_
  unfold rateAll1X at h
  obtain ⟨r2, hx2, h⟩ := obind h
  conv => whnf
  refine CallG.pure _ (rateBookSheetC hN hx2) ?_
  conv => whnf
  cases h
  exact rfl

theorem slicesIndexFuncXC {N : Nat} (hN : N ≤ 1073741824) {s1 : List RateSheet} {f1 : RateBook} {r : Int} (h : slicesIndexFuncX N s1 f1 = some r) :
    ACalls Try.prog 85 [.d (.list 6 (List.map RateSheet.enc s1)), .d (.fn (.func 74) [] [.ref (.agg [.fn (.func 48) [.agg [I f1.fLaw.fBase, I f1.fLaw.fPercent, I f1.fLaw.fCap, I f1.fLaw.fLeast, I f1.fLaw.fBlind, .list 1 (List.map I f1.fBowlers), .list 6 (List.map RateSheet.enc f1.fSheets), .list 1 (List.map I f1.fWithdrawn)]] []])])] [] fun e os => e = .ret (.d (I r)) ∧ os = [] := by
  refine acalls_f (fresh := false) tt_ok dr_ok ⟨[], [], [], [], [1001], 0, []⟩ Try.func85 rfl Try.call85 rfl ?_
  unfold slicesIndexFuncX at h
  conv => whnf
  refine SeqG.mk Unit (fun y => []) (fun y => []) (fun y => slicesIndexFuncX_k1 N = some r) ?_ ?_
  ·conv => whnf
   refine LnA.mk _ (List.length_map _) ?_
   conv => whnf
   refine LoopG.mk (Nat × (Int × Int)) (fun y => [(0, .d (.list 6 (List.map RateSheet.enc s1))), (1, .d (.fn (.func 74) [] [.ref (.agg [.fn (.func 48) [.agg [I f1.fLaw.fBase, I f1.fLaw.fPercent, I f1.fLaw.fCap, I f1.fLaw.fLeast, I f1.fLaw.fBlind, .list 1 (List.map I f1.fBowlers), .list 6 (List.map RateSheet.enc f1.fSheets), .list 1 (List.map I f1.fWithdrawn)]] []])])), (7, .d (I y.2.1)), (8, .d (I y.2.2))]) (fun y => []) (fun y => loopN (fun rr x => slicesIndexFuncX_b2 N s1 f1 rr x.1 x.2) y.1 y.2 = some r) (fun y => y.1) (N, ((s1.length : Int), 0)) h (Sub.eq rfl ?_ ?_) ?_
   ·repeat ((conv => whnf); refine Need.mk rfl ?_)
    exact trivial
   ·exact trivial
   ·rintro ⟨n2, ⟨v17, v18⟩⟩ hl2
    obtain ⟨n2, rfl, hl2⟩ := loopN_some hl2
    replace hl2 : slicesIndexFuncX_b2 N s1 f1 (loopN (fun rr x => slicesIndexFuncX_b2 N s1 f1 rr x.1 x.2) n2) v17 v18 = some r := hl2
    rw [slicesIndexFuncX_b2] at hl2
    conv => whnf
    refine Br.mk (fun hc22 => ?_) (fun hc22 => ?_)
    ·replace hl2 := ite_t hc22 hl2
     obtain ⟨x24, hx47, hl2⟩ := obind hl2
     conv => whnf
     refine Side.mk rfl ⟨_, idx_0 hx47, idx_map _ hx47, ?_⟩
     obtain ⟨r24, hx48, hl2⟩ := obind hl2
     conv => whnf
     refine CallG.pure _ (rateAll1XC hN hx48) ?_
     conv => whnf
     refine Br.mk (fun hc24 => ?_) (fun hc24 => ?_)
     ·replace hl2 := ite_t hc24 hl2
      conv => whnf
      cases hl2
      exact rfl
     ·replace hl2 := ite_f hc24 hl2
      conv => whnf
      refine ⟨(n2, (v17, w64 (v18 + 1))), hl2, Sub.eq rfl ?_ ?_, Nat.lt_succ_self _⟩
      ·repeat ((conv => whnf); refine Need.mk rfl ?_)
       exact trivial
      ·exact trivial
    ·replace hl2 := ite_f hc22 hl2
     conv => whnf
     refine ⟨(), hl2, Sub.eq rfl ?_ ?_⟩
     ·repeat ((conv => whnf); refine Need.mk rfl ?_)
      exact trivial
     ·exact trivial
  ·clear h
   rintro _ h
   unfold slicesIndexFuncX_k1 at h
   conv => whnf
   cases h
   exact rfl

theorem slicesContainsFuncXC {N : Nat} (hN : N ≤ 1073741824) {s1 : List RateSheet} {f1 : RateBook} {r : Bool} (h : slicesContainsFuncX N s1 f1 = some r) :
    ACalls Try.prog 73 [.d (.list 6 (List.map RateSheet.enc s1)), .d (.fn (.func 74) [] [.ref (.agg [.fn (.func 48) [.agg [I f1.fLaw.fBase, I f1.fLaw.fPercent, I f1.fLaw.fCap, I f1.fLaw.fLeast, I f1.fLaw.fBlind, .list 1 (List.map I f1.fBowlers), .list 6 (List.map RateSheet.enc f1.fSheets), .list 1 (List.map I f1.fWithdrawn)]] []])])] [] fun e os => e = .ret (.d (.bool r)) ∧ os = [] := by
  refine acalls_f (fresh := false) tt_ok dr_ok ⟨[], [], [], [], [], 0, []⟩ Try.func73 rfl Try.call73 rfl ?_
  unfold slicesContainsFuncX at h
  obtain ⟨r2, hx2, h⟩ := obind h
  conv => whnf
  refine CallG.pure _ (slicesIndexFuncXC hN hx2) ?_
  conv => whnf
  cases h
  exact rfl

theorem rateAllXC {N : Nat} (hN : N ≤ 1073741824) {l1 : List RateSheet} {right1 : RateBook} {r : Bool} (h : rateAllX N l1 right1 = some r) :
    ACalls Try.prog 47 [.d (.list 6 (List.map RateSheet.enc l1)), .d (.fn (.func 48) [.agg [I right1.fLaw.fBase, I right1.fLaw.fPercent, I right1.fLaw.fCap, I right1.fLaw.fLeast, I right1.fLaw.fBlind, .list 1 (List.map I right1.fBowlers), .list 6 (List.map RateSheet.enc right1.fSheets), .list 1 (List.map I right1.fWithdrawn)]] [])] [] fun e os => e = .ret (.d (.bool r)) ∧ os = [] := by
  refine acalls_f (fresh := false) tt_ok dr_ok ⟨[3], [], [], [], [], 0, []⟩ Try.func47 rfl Try.call47 rfl ?_
  unfold rateAllX at h
  obtain ⟨r2, hx2, h⟩ := obind h
  conv => whnf
  refine CallG.pure _ (slicesContainsFuncXC hN hx2) ?_
  conv => whnf
  cases h
  exact rfl

theorem rateAll1XXC {N : Nat} (hN : N ≤ 1073741824) {x1 : Int} {r : Bool} (h : rateAll1XX N x1 = some r) :
    ACalls Try.prog 72 [.d (I x1), .d (.ref (.agg [.fn (.func 49) [] []]))] [] fun e os => e = .ret (.d (.bool r)) ∧ os = [] := by
  refine acalls_f (fresh := false) tt_ok dr_ok ⟨[], [], [], [], [], 0, []⟩ Try.func72 rfl Try.call72 rfl ?_
  unfold rateAll1XX at h
  obtain ⟨r2, hx2, h⟩ := obind h
  conv => whnf
  refine CallG.pure _ (rateNumberC hN hx2) ?_
  conv => whnf
  cases h
  exact rfl

theorem slicesIndexFuncXXC {N : Nat} (hN : N ≤ 1073741824) {s1 : List Int} {r : Int} (h : slicesIndexFuncXX N s1 = some r) :
    ACalls Try.prog 84 [.d (.list 1 (List.map I s1)), .d (.fn (.func 72) [] [.ref (.agg [.fn (.func 49) [] []])])] [] fun e os => e = .ret (.d (I r)) ∧ os = [] := by
  refine acalls_f (fresh := false) tt_ok dr_ok ⟨[], [], [], [], [1001], 0, []⟩ Try.func84 rfl Try.call84 rfl ?_
  unfold slicesIndexFuncXX at h
  conv => whnf
  refine SeqG.mk Unit (fun y => []) (fun y => []) (fun y => slicesIndexFuncXX_k1 N = some r) ?_ ?_
  ·conv => whnf
   refine LnA.mk _ (List.length_map _) ?_
   conv => whnf
   refine LoopG.mk (Nat × (Int × Int)) (fun y => [(0, .d (.list 1 (List.map I s1))), (1, .d (.fn (.func 72) [] [.ref (.agg [.fn (.func 49) [] []])])), (7, .d (I y.2.1)), (8, .d (I y.2.2))]) (fun y => []) (fun y => loopN (fun rr x => slicesIndexFuncXX_b2 N s1 rr x.1 x.2) y.1 y.2 = some r) (fun y => y.1) (N, ((s1.length : Int), 0)) h (Sub.eq rfl ?_ ?_) ?_
   ·repeat ((conv => whnf); refine Need.mk rfl ?_)
    exact trivial
   ·exact trivial
   ·rintro ⟨n2, ⟨v17, v18⟩⟩ hl2
    obtain ⟨n2, rfl, hl2⟩ := loopN_some hl2
    replace hl2 : slicesIndexFuncXX_b2 N s1 (loopN (fun rr x => slicesIndexFuncXX_b2 N s1 rr x.1 x.2) n2) v17 v18 = some r := hl2
    rw [slicesIndexFuncXX_b2] at hl2
    conv => whnf
    refine Br.mk (fun hc22 => ?_) (fun hc22 => ?_)
    ·replace hl2 := ite_t hc22 hl2
     obtain ⟨x24, hx47, hl2⟩ := obind hl2
     conv => whnf
     refine Side.mk rfl ⟨_, idx_0 hx47, idx_map _ hx47, ?_⟩
     obtain ⟨r24, hx48, hl2⟩ := obind hl2
     conv => whnf
     refine CallG.pure _ (rateAll1XXC hN hx48) ?_
     conv => whnf
     refine Br.mk (fun hc24 => ?_) (fun hc24 => ?_)
     ·replace hl2 := ite_t hc24 hl2
      conv => whnf
      cases hl2
      exact rfl
     ·replace hl2 := ite_f hc24 hl2
      conv => whnf
      refine ⟨(n2, (v17, w64 (v18 + 1))), hl2, Sub.eq rfl ?_ ?_, Nat.lt_succ_self _⟩
      ·repeat ((conv => whnf); refine Need.mk rfl ?_)
       exact trivial
      ·exact trivial
    ·replace hl2 := ite_f hc22 hl2
     conv => whnf
     refine ⟨(), hl2, Sub.eq rfl ?_ ?_⟩
     ·repeat ((conv => whnf); refine Need.mk rfl ?_)
      exact trivial
     ·exact trivial
  ·clear h
   rintro _ h
   unfold slicesIndexFuncXX_k1 at h
   conv => whnf
   cases h
   exact rfl

theorem slicesContainsFuncXXC {N : Nat} (hN : N ≤ 1073741824) {s1 : List Int} {r : Bool} (h : slicesContainsFuncXX N s1 = some r) :
    ACalls Try.prog 71 [.d (.list 1 (List.map I s1)), .d (.fn (.func 72) [] [.ref (.agg [.fn (.func 49) [] []])])] [] fun e os => e = .ret (.d (.bool r)) ∧ os = [] := by
  refine acalls_f (fresh := false) tt_ok dr_ok ⟨[], [], [], [], [], 0, []⟩ Try.func71 rfl Try.call71 rfl ?_
  unfold slicesContainsFuncXX at h
  obtain ⟨r2, hx2, h⟩ := obind h
  conv => whnf
  refine CallG.pure _ (slicesIndexFuncXXC hN hx2) ?_
  conv => whnf
  cases h
  exact rfl

theorem rateAllXXC {N : Nat} (hN : N ≤ 1073741824) {l1 : List Int} {r : Bool} (h : rateAllXX N l1 = some r) :
    ACalls Try.prog 45 [.d (.list 1 (List.map I l1)), .d (.fn (.func 49) [] [])] [] fun e os => e = .ret (.d (.bool r)) ∧ os = [] := by
  refine acalls_f (fresh := false) tt_ok dr_ok ⟨[3], [], [], [], [], 0, []⟩ Try.func45 rfl Try.call45 rfl ?_
  unfold rateAllXX at h
  obtain ⟨r2, hx2, h⟩ := obind h
  conv => whnf
  refine CallG.pure _ (slicesContainsFuncXXC hN hx2) ?_
  conv => whnf
  cases h
  exact rfl

theorem rateRisingC {N : Nat} (hN : N ≤ 1073741824) {l1 : List Int} {r : Bool} (h : rateRising N l1 = some r) :
    ACalls Try.prog 50 [.d (.list 1 (List.map I l1))] [] fun e os => e = .ret (.d (.bool r)) ∧ os = [] := by
  refine acalls_f (fresh := false) tt_ok dr_ok ⟨[], [], [], [], [4, 1001], 0, []⟩ Try.func50 rfl Try.call50 rfl ?_
  unfold rateRising at h
  conv => whnf
  refine SeqG.mk Unit (fun y => []) (fun y => []) (fun y => rateRising_k1 N = some r) ?_ ?_
  ·conv => whnf
   refine LnA.mk _ (List.length_map _) ?_
   conv => whnf
   refine LoopG.mk (Nat × (Int × Int)) (fun y => [(0, .d (.list 1 (List.map I l1))), (5, .d (I y.2.1)), (6, .d (I y.2.2))]) (fun y => []) (fun y => loopN (fun rr x => rateRising_b2 N l1 rr x.1 x.2) y.1 y.2 = some r) (fun y => y.1) (N, ((l1.length : Int), 0)) h (Sub.eq rfl ?_ ?_) ?_
   ·repeat ((conv => whnf); refine Need.mk rfl ?_)
    exact trivial
   ·exact trivial
   ·rintro ⟨n2, ⟨v23, v24⟩⟩ hl2
    obtain ⟨n2, rfl, hl2⟩ := loopN_some hl2
    replace hl2 : rateRising_b2 N l1 (loopN (fun rr x => rateRising_b2 N l1 rr x.1 x.2) n2) v23 v24 = some r := hl2
    rw [rateRising_b2] at hl2
    conv => whnf
    refine Br.mk (fun hc30 => ?_) (fun hc30 => ?_)
    ·replace hl2 := ite_t hc30 hl2
     obtain ⟨v26, hx42, hl2⟩ := obind hl2
     conv => whnf
     refine SeqG.mk Unit (fun y => [(0, .d (.list 1 (List.map I l1))), (5, .d (I v23)), (6, .d (I v24)), (22, .d (.bool v26))]) (fun y => []) (fun _ => True) ?_ ?_
     ·conv => whnf
      refine DrawG.mk (.take 0 (.take 1 (.take 2 (.spl 11 (.take 3 (.take 4 (.take 5 (.take 6 (.take 7 (.take 8 (.take 9 (.take 10 (.take 11 (.take 12 (.take 13 .done))))))))))))))) (by kernel_rfl) ?_
      conv => whnf
      refine Br.mk (fun hc35 => ?_) (fun hc35 => ?_)
      ·replace hx42 := ite_t hc35 hx42
       obtain ⟨x31, hx43, hx42⟩ := obind hx42
       obtain ⟨x32, hx44, hx42⟩ := obind hx42
       conv => whnf
       refine Side.mk rfl ⟨_, idx_0 hx43, idx_map _ hx43, ?_⟩
       conv => whnf
       refine Side.mk rfl ⟨_, idx_0 hx44, idx_map _ hx44, ?_⟩
       cases hx42
       conv => whnf
       refine ⟨(), trivial, Sub.eq rfl ?_ ?_⟩
       ·repeat ((conv => whnf); refine Need.mk rfl ?_)
        exact trivial
       ·exact trivial
      ·replace hx42 := ite_f hc35 hx42
       cases hx42
       conv => whnf
       refine ⟨(), trivial, Sub.eq rfl ?_ ?_⟩
       ·repeat ((conv => whnf); refine Need.mk rfl ?_)
        exact trivial
       ·exact trivial
     ·rintro _ _
      conv => whnf
      refine Br.mk (fun hc36 => ?_) (fun hc36 => ?_)
      ·replace hl2 := ite_t hc36 hl2
       conv => whnf
       cases hl2
       exact rfl
      ·replace hl2 := ite_f hc36 hl2
       conv => whnf
       refine ⟨(n2, (v23, w64 (v24 + 1))), hl2, Sub.eq rfl ?_ ?_, Nat.lt_succ_self _⟩
       ·repeat ((conv => whnf); refine Need.mk rfl ?_)
        exact trivial
       ·exact trivial
    ·replace hl2 := ite_f hc30 hl2
     conv => whnf
     refine ⟨(), hl2, Sub.eq rfl ?_ ?_⟩
     ·repeat ((conv => whnf); refine Need.mk rfl ?_)
      exact trivial
     ·exact trivial
  ·clear h
   rintro _ h
   unfold rateRising_k1 at h
   conv => whnf
   cases h
   exact rfl

theorem rateCheckBookC {N : Nat} (hN : N ≤ 1073741824) {b1 : RateBook} {r : Int} (h : rateCheckBook N b1 = some r) :
    ACalls Try.prog 19 [.d (.agg [I b1.fLaw.fBase, I b1.fLaw.fPercent, I b1.fLaw.fCap, I b1.fLaw.fLeast, I b1.fLaw.fBlind, .list 1 (List.map I b1.fBowlers), .list 6 (List.map RateSheet.enc b1.fSheets), .list 1 (List.map I b1.fWithdrawn)])] [] fun e os => e = .ret (.d (I r)) ∧ os = [] := by
  refine acalls_f (fresh := false) tt_ok dr_ok ⟨[1], [], [], [], [1, 3, 11, 1005, 1007], 0, []⟩ Try.func19 rfl Try.call19 rfl ?_
  unfold rateCheckBook at h
  obtain ⟨v3, hx13, h⟩ := obind h
  conv => whnf
  refine SeqG.mk Unit (fun y => [(1, .d (.ref (.agg [I b1.fLaw.fBase, I b1.fLaw.fPercent, I b1.fLaw.fCap, I b1.fLaw.fLeast, I b1.fLaw.fBlind, .list 1 (List.map I b1.fBowlers), .list 6 (List.map RateSheet.enc b1.fSheets), .list 1 (List.map I b1.fWithdrawn)]))), (7, .d (.bool v3))]) (fun y => []) (fun _ => True) ?_ ?_
  ·conv => whnf
   refine LnA.mk _ (List.length_map _) ?_
   conv => whnf
   refine Br.mk (fun hc17 => ?_) (fun hc17 => ?_)
   ·replace hx13 := ite_f hc17 hx13
    conv => whnf
    refine LnA.mk _ (List.length_map _) ?_
    conv => whnf
    refine Br.mk (fun hc18 => ?_) (fun hc18 => ?_)
    ·replace hx13 := ite_f hc18 hx13
     conv => whnf
     refine LnA.mk _ (List.length_map _) ?_
     cases hx13
     conv => whnf
     refine ⟨(), trivial, Sub.eq rfl ?_ ?_⟩
     ·repeat ((conv => whnf); refine Need.mk rfl ?_)
      exact trivial
     ·exact trivial
    ·replace hx13 := ite_t hc18 hx13
     cases hx13
     conv => whnf
     refine ⟨(), trivial, Sub.eq rfl ?_ ?_⟩
     ·repeat ((conv => whnf); refine Need.mk rfl ?_)
      exact trivial
     ·exact trivial
   ·replace hx13 := ite_t hc17 hx13
    cases hx13
    conv => whnf
    refine ⟨(), trivial, Sub.eq rfl ?_ ?_⟩
    ·repeat ((conv => whnf); refine Need.mk rfl ?_)
     exact trivial
    ·exact trivial
  ·rintro _ _
   conv => whnf
   refine Br.mk (fun hc19 => ?_) (fun hc19 => ?_)
   ·replace h := ite_t hc19 h
    conv => whnf
    cases h
    exact rfl
   ·replace h := ite_f hc19 h
    obtain ⟨v4, hx19, h⟩ := obind h
    conv => whnf
    refine SeqG.mk Unit (fun y => [(1, .d (.ref (.agg [I b1.fLaw.fBase, I b1.fLaw.fPercent, I b1.fLaw.fCap, I b1.fLaw.fLeast, I b1.fLaw.fBlind, .list 1 (List.map I b1.fBowlers), .list 6 (List.map RateSheet.enc b1.fSheets), .list 1 (List.map I b1.fWithdrawn)]))), (24, .d (.bool v4))]) (fun y => []) (fun _ => True) ?_ ?_
    ·obtain ⟨r16, hx20, hx19⟩ := obind hx19
     conv => whnf
     refine CallG.pure _ (rateLawValidC hN hx20) ?_
     conv => whnf
     refine Br.mk (fun hc24 => ?_) (fun hc24 => ?_)
     ·replace hx19 := ite_f hc24 hx19
      obtain ⟨r17, hx21, hx19⟩ := obind hx19
      conv => whnf
      refine CallG.pure _ (rateAllC hN hx21) ?_
      conv => whnf
      refine Br.mk (fun hc25 => ?_) (fun hc25 => ?_)
      ·replace hx19 := ite_f hc25 hx19
       obtain ⟨r18, hx22, hx19⟩ := obind hx19
       conv => whnf
       refine CallG.pure _ (rateAllXC hN hx22) ?_
       conv => whnf
       refine Br.mk (fun hc26 => ?_) (fun hc26 => ?_)
       ·replace hx19 := ite_f hc26 hx19
        obtain ⟨r19, hx23, hx19⟩ := obind hx19
        conv => whnf
        refine CallG.pure _ (rateAllXXC hN hx23) ?_
        conv => whnf
        refine Br.mk (fun hc27 => ?_) (fun hc27 => ?_)
        ·replace hx19 := ite_f hc27 hx19
         obtain ⟨r20, hx24, hx19⟩ := obind hx19
         conv => whnf
         refine CallG.pure _ (rateRisingC hN hx24) ?_
         cases hx19
         conv => whnf
         refine ⟨(), trivial, Sub.eq rfl ?_ ?_⟩
         ·repeat ((conv => whnf); refine Need.mk rfl ?_)
          exact trivial
         ·exact trivial
        ·replace hx19 := ite_t hc27 hx19
         cases hx19
         conv => whnf
         refine ⟨(), trivial, Sub.eq rfl ?_ ?_⟩
         ·repeat ((conv => whnf); refine Need.mk rfl ?_)
          exact trivial
         ·exact trivial
       ·replace hx19 := ite_t hc26 hx19
        cases hx19
        conv => whnf
        refine ⟨(), trivial, Sub.eq rfl ?_ ?_⟩
        ·repeat ((conv => whnf); refine Need.mk rfl ?_)
         exact trivial
        ·exact trivial
      ·replace hx19 := ite_t hc25 hx19
       cases hx19
       conv => whnf
       refine ⟨(), trivial, Sub.eq rfl ?_ ?_⟩
       ·repeat ((conv => whnf); refine Need.mk rfl ?_)
        exact trivial
       ·exact trivial
     ·replace hx19 := ite_t hc24 hx19
      cases hx19
      conv => whnf
      refine ⟨(), trivial, Sub.eq rfl ?_ ?_⟩
      ·repeat ((conv => whnf); refine Need.mk rfl ?_)
       exact trivial
      ·exact trivial
    ·rintro _ _
     conv => whnf
     refine Br.mk (fun hc28 => ?_) (fun hc28 => ?_)
     ·replace h := ite_t hc28 h
      conv => whnf
      cases h
      exact rfl
     ·replace h := ite_f hc28 h
      conv => whnf
      refine SeqG.mk Unit (fun y => []) (fun y => []) (fun y => rateCheckBook_k1 N = some r) ?_ ?_
      ·conv => whnf
       refine LnA.mk _ (List.length_map _) ?_
       conv => whnf
       refine LoopG.mk (Nat × (Int × Int)) (fun y => [(1, .d (.ref (.agg [I b1.fLaw.fBase, I b1.fLaw.fPercent, I b1.fLaw.fCap, I b1.fLaw.fLeast, I b1.fLaw.fBlind, .list 1 (List.map I b1.fBowlers), .list 6 (List.map RateSheet.enc b1.fSheets), .list 1 (List.map I b1.fWithdrawn)]))), (56, .d (.list 6 (List.map RateSheet.enc b1.fSheets))), (57, .d (I y.2.1)), (58, .d (I y.2.2))]) (fun y => []) (fun y => loopN (fun rr x => rateCheckBook_b4 N b1 rr x.1 x.2) y.1 y.2 = some r) (fun y => y.1) (N, ((b1.fSheets.length : Int), 0)) h (Sub.eq rfl ?_ ?_) ?_
       ·repeat ((conv => whnf); refine Need.mk rfl ?_)
        exact trivial
       ·exact trivial
       ·rintro ⟨n12, ⟨v171, v172⟩⟩ hl12
        obtain ⟨n12, rfl, hl12⟩ := loopN_some hl12
        replace hl12 : rateCheckBook_b4 N b1 (loopN (fun rr x => rateCheckBook_b4 N b1 rr x.1 x.2) n12) v171 v172 = some r := hl12
        rw [rateCheckBook_b4] at hl12
        conv => whnf
        refine Br.mk (fun hc520 => ?_) (fun hc520 => ?_)
        ·replace hl12 := ite_t hc520 hl12
         conv => whnf
         refine SeqG.mk Unit (fun y => [(1, .d (.ref (.agg [I b1.fLaw.fBase, I b1.fLaw.fPercent, I b1.fLaw.fCap, I b1.fLaw.fLeast, I b1.fLaw.fBlind, .list 1 (List.map I b1.fBowlers), .list 6 (List.map RateSheet.enc b1.fSheets), .list 1 (List.map I b1.fWithdrawn)]))), (56, .d (.list 6 (List.map RateSheet.enc b1.fSheets))), (57, .d (I v171)), (58, .d (I v172))]) (fun y => []) (fun y => rateCheckBook_k2 N v171 v172 (loopN (fun rr x => rateCheckBook_b4 N b1 rr x.1 x.2) n12) = some r) ?_ ?_
         ·obtain ⟨x156, hx268, hl12⟩ := obind hl12
          conv => whnf
          refine Side.mk rfl ⟨_, idx_0 hx268, idx_map _ hx268, ?_⟩
          conv => whnf
          intro b157
          conv => whnf
          refine Side.mk rfl ?_
          obtain ⟨l24, hx270, hl12⟩ := obind hl12
          conv => whnf
          refine Need.mk (slc_need _ hx270) (Eqv.mk (List.map RateSheet.enc l24) (slc_map _ hx270) ?_)
          conv => whnf
          refine LnA.mk _ (List.length_map _) ?_
          conv => whnf
          refine LoopG.mk (Nat × (Int × Int)) (fun y => [(1, .d (.ref (.agg [I b1.fLaw.fBase, I b1.fLaw.fPercent, I b1.fLaw.fCap, I b1.fLaw.fLeast, I b1.fLaw.fBlind, .list 1 (List.map I b1.fBowlers), .list 6 (List.map RateSheet.enc b1.fSheets), .list 1 (List.map I b1.fWithdrawn)]))), (4, .ptr 4 b157 0), (56, .d (.list 6 (List.map RateSheet.enc b1.fSheets))), (57, .d (I v171)), (58, .d (I v172)), (66, .d (.list 6 (List.map RateSheet.enc l24))), (67, .d (I y.2.1)), (68, .d (I y.2.2))]) (fun y => [(4, .cells b157 [.d (I x156.fNumber), .d (I x156.fBowler), .d (I x156.fWeek), .d (I x156.fGames.a0), .d (I x156.fGames.a1), .d (I x156.fGames.a2)])]) (fun y => loopN (fun rr x => rateCheckBook_b3 N v171 v172 (loopN (fun rr x => rateCheckBook_b4 N b1 rr x.1 x.2) n12) x156 l24 rr x.1 x.2) y.1 y.2 = some r) (fun y => y.1) (N, ((l24.length : Int), 0)) hl12 (Sub.eq rfl ?_ ?_) ?_
          ·repeat ((conv => whnf); refine Need.mk rfl ?_)
           exact trivial
          ·conv => whnf
           refine Need.mk (OLe.refl _) ?_
           exact trivial
          ·rintro ⟨n14, ⟨v199, v200⟩⟩ hl14
           obtain ⟨n14, rfl, hl14⟩ := loopN_some hl14
           replace hl14 : rateCheckBook_b3 N v171 v172 (loopN (fun rr x => rateCheckBook_b4 N b1 rr x.1 x.2) n12) x156 l24 (loopN (fun rr x => rateCheckBook_b3 N v171 v172 (loopN (fun rr x => rateCheckBook_b4 N b1 rr x.1 x.2) n12) x156 l24 rr x.1 x.2) n14) v199 v200 = some r := hl14
           rw [rateCheckBook_b3] at hl14
           conv => whnf
           refine Br.mk (fun hc602 => ?_) (fun hc602 => ?_)
           ·replace hl14 := ite_t hc602 hl14
            obtain ⟨x168, hx287, hl14⟩ := obind hl14
            conv => whnf
            refine Side.mk rfl ⟨_, idx_0 hx287, idx_map _ hx287, ?_⟩
            conv => whnf
            intro b169
            conv => whnf
            refine Side.mk rfl ?_
            obtain ⟨v202, hx288, hl14⟩ := obind hl14
            conv => whnf
            refine SeqG.mk Unit (fun y => [(1, .d (.ref (.agg [I b1.fLaw.fBase, I b1.fLaw.fPercent, I b1.fLaw.fCap, I b1.fLaw.fLeast, I b1.fLaw.fBlind, .list 1 (List.map I b1.fBowlers), .list 6 (List.map RateSheet.enc b1.fSheets), .list 1 (List.map I b1.fWithdrawn)]))), (4, .ptr 4 b157 0), (56, .d (.list 6 (List.map RateSheet.enc b1.fSheets))), (57, .d (I v171)), (58, .d (I v172)), (66, .d (.list 6 (List.map RateSheet.enc l24))), (67, .d (I v199)), (68, .d (I v200)), (97, .d (.bool v202))]) (fun y => [(4, .cells b157 [.d (I x156.fNumber), .d (I x156.fBowler), .d (I x156.fWeek), .d (I x156.fGames.a0), .d (I x156.fGames.a1), .d (I x156.fGames.a2)])]) (fun _ => True) ?_ ?_
            ·conv => whnf
             refine Side.mk rfl ?_
             conv => whnf
             refine Side.mk rfl ?_
             conv => whnf
             refine Br.mk (fun hc613 => ?_) (fun hc613 => ?_)
             ·replace hx288 := ite_t hc613 hx288
              conv => whnf
              refine Side.mk rfl ?_
              conv => whnf
              refine Side.mk rfl ?_
              conv => whnf
              refine Br.mk (fun hc614 => ?_) (fun hc614 => ?_)
              ·replace hx288 := ite_f hc614 hx288
               conv => whnf
               refine Side.mk rfl ?_
               conv => whnf
               refine Side.mk rfl ?_
               conv => whnf
               refine Br.mk (fun hc615 => ?_) (fun hc615 => ?_)
               ·replace hx288 := ite_f hc615 hx288
                conv => whnf
                refine Side.mk rfl ?_
                conv => whnf
                refine Side.mk rfl ?_
                conv => whnf
                refine Need.mk ⟨rfl, rfl⟩ (EqB.mk _ (eqc_Ar3Inti64 x156.fGames x168.fGames) ?_)
                cases hx288
                conv => whnf
                refine ⟨(), trivial, Sub.eq rfl ?_ ?_⟩
                ·repeat ((conv => whnf); refine Need.mk rfl ?_)
                 exact trivial
                ·conv => whnf
                 refine Need.mk (OLe.refl _) ?_
                 exact trivial
               ·replace hx288 := ite_t hc615 hx288
                cases hx288
                conv => whnf
                refine ⟨(), trivial, Sub.eq rfl ?_ ?_⟩
                ·repeat ((conv => whnf); refine Need.mk rfl ?_)
                 exact trivial
                ·conv => whnf
                 refine Need.mk (OLe.refl _) ?_
                 exact trivial
              ·replace hx288 := ite_t hc614 hx288
               cases hx288
               conv => whnf
               refine ⟨(), trivial, Sub.eq rfl ?_ ?_⟩
               ·repeat ((conv => whnf); refine Need.mk rfl ?_)
                exact trivial
               ·conv => whnf
                refine Need.mk (OLe.refl _) ?_
                exact trivial
             ·replace hx288 := ite_f hc613 hx288
              cases hx288
              conv => whnf
              refine ⟨(), trivial, Sub.eq rfl ?_ ?_⟩
              ·repeat ((conv => whnf); refine Need.mk rfl ?_)
               exact trivial
              ·conv => whnf
               refine Need.mk (OLe.refl _) ?_
               exact trivial
            ·rintro _ _
             conv => whnf
             refine Br.mk (fun hc616 => ?_) (fun hc616 => ?_)
             ·replace hl14 := ite_t hc616 hl14
              conv => whnf
              cases hl14
              exact rfl
             ·replace hl14 := ite_f hc616 hl14
              conv => whnf
              refine ⟨(n14, (v199, w64 (v200 + 1))), hl14, Sub.eq rfl ?_ ?_, Nat.lt_succ_self _⟩
              ·repeat ((conv => whnf); refine Need.mk rfl ?_)
               exact trivial
              ·conv => whnf
               refine Need.mk (OLe.refl _) ?_
               exact trivial
           ·replace hl14 := ite_f hc602 hl14
            conv => whnf
            refine ⟨(), hl14, Sub.eq rfl ?_ ?_⟩
            ·repeat ((conv => whnf); refine Need.mk rfl ?_)
             exact trivial
            ·exact trivial
         ·rintro _ h
          unfold rateCheckBook_k2 at h
          conv => whnf
          refine ⟨(n12, (v171, w64 (v172 + 1))), h, Sub.eq rfl ?_ ?_, Nat.lt_succ_self _⟩
          ·repeat ((conv => whnf); refine Need.mk rfl ?_)
           exact trivial
          ·exact trivial
        ·replace hl12 := ite_f hc520 hl12
         conv => whnf
         refine ⟨(), hl12, Sub.eq rfl ?_ ?_⟩
         ·repeat ((conv => whnf); refine Need.mk rfl ?_)
          exact trivial
         ·exact trivial
      ·clear h
       rintro _ h
       unfold rateCheckBook_k1 at h
       conv => whnf
       cases h
       exact rfl

theorem slicesIndexC {N : Nat} (hN : N ≤ 1073741824) {s1 : List Int} {v1 : Int} {r : Int} (h : slicesIndex N s1 v1 = some r) :
    ACalls Try.prog 86 [.d (.list 1 (List.map I s1)), .d (I v1)] [] fun e os => e = .ret (.d (I r)) ∧ os = [] := by
  refine acalls_f (fresh := false) tt_ok dr_ok ⟨[], [], [], [], [1001], 0, []⟩ Try.func86 rfl Try.call86 rfl ?_
  unfold slicesIndex at h
  conv => whnf
  refine SeqG.mk Unit (fun y => []) (fun y => []) (fun y => slicesIndex_k1 N = some r) ?_ ?_
  ·conv => whnf
   refine LnA.mk _ (List.length_map _) ?_
   conv => whnf
   refine LoopG.mk (Nat × (Int × Int)) (fun y => [(0, .d (.list 1 (List.map I s1))), (1, .d (I v1)), (7, .d (I y.2.1)), (8, .d (I y.2.2))]) (fun y => []) (fun y => loopN (fun rr x => slicesIndex_b2 N s1 v1 rr x.1 x.2) y.1 y.2 = some r) (fun y => y.1) (N, ((s1.length : Int), 0)) h (Sub.eq rfl ?_ ?_) ?_
   ·repeat ((conv => whnf); refine Need.mk rfl ?_)
    exact trivial
   ·exact trivial
   ·rintro ⟨n2, ⟨v18, v19⟩⟩ hl2
    obtain ⟨n2, rfl, hl2⟩ := loopN_some hl2
    replace hl2 : slicesIndex_b2 N s1 v1 (loopN (fun rr x => slicesIndex_b2 N s1 v1 rr x.1 x.2) n2) v18 v19 = some r := hl2
    rw [slicesIndex_b2] at hl2
    conv => whnf
    refine Br.mk (fun hc22 => ?_) (fun hc22 => ?_)
    ·replace hl2 := ite_t hc22 hl2
     obtain ⟨x24, hx24, hl2⟩ := obind hl2
     conv => whnf
     refine Side.mk rfl ⟨_, idx_0 hx24, idx_map _ hx24, ?_⟩
     conv => whnf
     refine Br.mk (fun hc24 => ?_) (fun hc24 => ?_)
     ·replace hl2 := ite_t hc24 hl2
      conv => whnf
      cases hl2
      exact rfl
     ·replace hl2 := ite_f hc24 hl2
      conv => whnf
      refine ⟨(n2, (v18, w64 (v19 + 1))), hl2, Sub.eq rfl ?_ ?_, Nat.lt_succ_self _⟩
      ·repeat ((conv => whnf); refine Need.mk rfl ?_)
       exact trivial
      ·exact trivial
    ·replace hl2 := ite_f hc22 hl2
     conv => whnf
     refine ⟨(), hl2, Sub.eq rfl ?_ ?_⟩
     ·repeat ((conv => whnf); refine Need.mk rfl ?_)
      exact trivial
     ·exact trivial
  ·clear h
   rintro _ h
   unfold slicesIndex_k1 at h
   conv => whnf
   cases h
   exact rfl

theorem slicesContainsC {N : Nat} (hN : N ≤ 1073741824) {s1 : List Int} {v1 : Int} {r : Bool} (h : slicesContains N s1 v1 = some r) :
    ACalls Try.prog 76 [.d (.list 1 (List.map I s1)), .d (I v1)] [] fun e os => e = .ret (.d (.bool r)) ∧ os = [] := by
  refine acalls_f (fresh := false) tt_ok dr_ok ⟨[], [], [], [], [], 0, []⟩ Try.func76 rfl Try.call76 rfl ?_
  unfold slicesContains at h
  obtain ⟨r2, hx2, h⟩ := obind h
  conv => whnf
  refine CallG.pure _ (slicesIndexC hN hx2) ?_
  conv => whnf
  cases h
  exact rfl

def rateBookReadP  : Int ⊕ (Int × Int × Int × Int × Int × Int × (List Int) × (List RateSheet) × (List Int) × (List (RateTurn × RateSheet))) → AE → List (Nat × Ob) → Prop
  | .inl r => fun ae os => ∃ y : Unit, True ∧ ae = .ret (.d (.tup [.nilptr, I r])) ∧ os = []
  | .inr r => fun ae os => ∃ y : Nat × Nat, True ∧ ae = .ret (.tup [.ptr 260019 y.1 0, .d (I r.1)]) ∧ os = [(260019, .cells y.1 [.d (I r.2.1), .d (I r.2.2.1), .d (I r.2.2.2.1), .d (I r.2.2.2.2.1), .d (I r.2.2.2.2.2.1), .d (.list 1 (List.map I r.2.2.2.2.2.2.1)), .d (.list 6 (List.map RateSheet.enc r.2.2.2.2.2.2.2.1)), .d (.list 1 (List.map I r.2.2.2.2.2.2.2.2.1)), .mp 260017 y.2]), (260017, .map y.2 (List.map (fun p => (.agg [I p.1.fBowler, I p.1.fWeek], .agg [I p.2.fNumber, I p.2.fBowler, I p.2.fWeek, I p.2.fGames.a0, I p.2.fGames.a1, I p.2.fGames.a2])) r.2.2.2.2.2.2.2.2.2))]

theorem rateBookReadC {N : Nat} (hN : N ≤ 1073741824) {b1 : RateBook} {r : Int ⊕ (Int × Int × Int × Int × Int × Int × (List Int) × (List RateSheet) × (List Int) × (List (RateTurn × RateSheet)))} (h : rateBookRead N b1 = some r) :
    ACalls Try.prog 51 [.d (.agg [I b1.fLaw.fBase, I b1.fLaw.fPercent, I b1.fLaw.fCap, I b1.fLaw.fLeast, I b1.fLaw.fBlind, .list 1 (List.map I b1.fBowlers), .list 6 (List.map RateSheet.enc b1.fSheets), .list 1 (List.map I b1.fWithdrawn)])] [] (rateBookReadP  r) := by
  refine acalls_pred (fresh := false) tt_ok dr_ok ⟨[1], [], [], [], [9, 10, 1005, 1007], 260000, []⟩ Try.func51 rfl Try.call51 rfl ?_
  unfold rateBookRead at h
  obtain ⟨r4, hx4, h⟩ := obind h
  conv => whnf
  refine CallG.pure _ (rateCheckBookC hN hx4) ?_
  conv => whnf
  refine Br.mk (fun hc2 => ?_) (fun hc2 => ?_)
  ·replace h := ite_t hc2 h
   conv => whnf
   cases h
   exact ⟨_, ⟨(), trivial, rfl, rfl⟩, inO_at (ren := id) trivial⟩
  ·replace h := ite_f hc2 h
   conv => whnf
   intro b4
   conv => whnf
   intro b5
   obtain ⟨m8, hx56, h⟩ := obind h
   conv => whnf
   refine SeqG.mk Unit (fun y => [(5, .ptr 260019 b5 0)]) (fun y => [(260019, .cells b5 [.d (I b1.fLaw.fBase), .d (I b1.fLaw.fPercent), .d (I b1.fLaw.fCap), .d (I b1.fLaw.fLeast), .d (I b1.fLaw.fBlind), .d (.list 1 (List.map I b1.fBowlers)), .d (.list 6 (List.map RateSheet.enc b1.fSheets)), .d (.list 1 (List.map I b1.fWithdrawn)), .mp 260017 b4]), (260017, .map b4 (List.map (fun p => (.agg [I p.1.fBowler, I p.1.fWeek], .agg [I p.2.fNumber, I p.2.fBowler, I p.2.fWeek, I p.2.fGames.a0, I p.2.fGames.a1, I p.2.fGames.a2])) m8))]) (fun _ => True) ?_ ?_
   ·conv => whnf
    refine LnA.mk _ (List.length_map _) ?_
    conv => whnf
    refine LoopG.mk (Nat × (Int × Int × (List (RateTurn × RateSheet)))) (fun y => [(1, .d (.ref (.agg [I b1.fLaw.fBase, I b1.fLaw.fPercent, I b1.fLaw.fCap, I b1.fLaw.fLeast, I b1.fLaw.fBlind, .list 1 (List.map I b1.fBowlers), .list 6 (List.map RateSheet.enc b1.fSheets), .list 1 (List.map I b1.fWithdrawn)]))), (5, .ptr 260019 b5 0), (21, .d (.list 6 (List.map RateSheet.enc b1.fSheets))), (22, .d (I y.2.1)), (23, .d (I y.2.2.1))]) (fun y => [(260019, .cells b5 [.d (I b1.fLaw.fBase), .d (I b1.fLaw.fPercent), .d (I b1.fLaw.fCap), .d (I b1.fLaw.fLeast), .d (I b1.fLaw.fBlind), .d (.list 1 (List.map I b1.fBowlers)), .d (.list 6 (List.map RateSheet.enc b1.fSheets)), .d (.list 1 (List.map I b1.fWithdrawn)), .mp 260017 b4]), (260017, .map b4 (List.map (fun p => (.agg [I p.1.fBowler, I p.1.fWeek], .agg [I p.2.fNumber, I p.2.fBowler, I p.2.fWeek, I p.2.fGames.a0, I p.2.fGames.a1, I p.2.fGames.a2])) y.2.2.2))]) (fun y => loopN (fun rr x => rateBookRead_b1 N b1 rr x.1 x.2.1 x.2.2) y.1 y.2 = some m8) (fun y => y.1) (N, ((b1.fSheets.length : Int), 0, [])) hx56 (Sub.eq rfl ?_ ?_) ?_
    ·repeat ((conv => whnf); refine Need.mk rfl ?_)
     exact trivial
    ·conv => whnf
     refine Need.mk (OLe.refl _) ?_
     conv => whnf
     refine Need.mk (OLe.refl _) ?_
     exact trivial
    ·rintro ⟨n2, ⟨v47, v48, m14⟩⟩ hl2
     obtain ⟨n2, rfl, hl2⟩ := loopN_some hl2
     replace hl2 : rateBookRead_b1 N b1 (loopN (fun rr x => rateBookRead_b1 N b1 rr x.1 x.2.1 x.2.2) n2) v47 v48 m14 = some m8 := hl2
     rw [rateBookRead_b1] at hl2
     conv => whnf
     refine Br.mk (fun hc64 => ?_) (fun hc64 => ?_)
     ·replace hl2 := ite_t hc64 hl2
      obtain ⟨m15, hx99, hl2⟩ := obind hl2
      conv => whnf
      refine SeqG.mk Unit (fun y => [(1, .d (.ref (.agg [I b1.fLaw.fBase, I b1.fLaw.fPercent, I b1.fLaw.fCap, I b1.fLaw.fLeast, I b1.fLaw.fBlind, .list 1 (List.map I b1.fBowlers), .list 6 (List.map RateSheet.enc b1.fSheets), .list 1 (List.map I b1.fWithdrawn)]))), (5, .ptr 260019 b5 0), (21, .d (.list 6 (List.map RateSheet.enc b1.fSheets))), (22, .d (I v47)), (23, .d (I v48))]) (fun y => [(260019, .cells b5 [.d (I b1.fLaw.fBase), .d (I b1.fLaw.fPercent), .d (I b1.fLaw.fCap), .d (I b1.fLaw.fLeast), .d (I b1.fLaw.fBlind), .d (.list 1 (List.map I b1.fBowlers)), .d (.list 6 (List.map RateSheet.enc b1.fSheets)), .d (.list 1 (List.map I b1.fWithdrawn)), .mp 260017 b4]), (260017, .map b4 (List.map (fun p => (.agg [I p.1.fBowler, I p.1.fWeek], .agg [I p.2.fNumber, I p.2.fBowler, I p.2.fWeek, I p.2.fGames.a0, I p.2.fGames.a1, I p.2.fGames.a2])) m15))]) (fun _ => True) ?_ ?_
      ·obtain ⟨x24, hx101, hx99⟩ := obind hx99
       conv => whnf
       refine Side.mk rfl ⟨_, idx_0 hx101, idx_map _ hx101, ?_⟩
       conv => whnf
       intro b117
       conv => whnf
       refine Side.mk rfl ?_
       conv => whnf
       refine Side.mk rfl ?_
       conv => whnf
       refine Side.mk rfl ?_
       conv => whnf
       intro b119
       conv => whnf
       refine Side.mk rfl ?_
       obtain ⟨⟨is35, c12⟩, hx103, hx99⟩ := obind hx99
       conv => whnf
       refine SeqG.mk Nat (fun y => [(1, .d (.ref (.agg [I b1.fLaw.fBase, I b1.fLaw.fPercent, I b1.fLaw.fCap, I b1.fLaw.fLeast, I b1.fLaw.fBlind, .list 1 (List.map I b1.fBowlers), .list 6 (List.map RateSheet.enc b1.fSheets), .list 1 (List.map I b1.fWithdrawn)]))), (5, .ptr 260019 b5 0), (7, .ptr 260007 b117 0), (8, .ptr 260008 b119 0), (9, .ptr 260009 y 0), (10, .d (.bool is35)), (21, .d (.list 6 (List.map RateSheet.enc b1.fSheets))), (22, .d (I v47)), (23, .d (I v48))]) (fun y => [(260019, .cells b5 [.d (I b1.fLaw.fBase), .d (I b1.fLaw.fPercent), .d (I b1.fLaw.fCap), .d (I b1.fLaw.fLeast), .d (I b1.fLaw.fBlind), .d (.list 1 (List.map I b1.fBowlers)), .d (.list 6 (List.map RateSheet.enc b1.fSheets)), .d (.list 1 (List.map I b1.fWithdrawn)), .mp 260017 b4]), (260007, .cells b117 [.d (I x24.fNumber), .d (I x24.fBowler), .d (I x24.fWeek), .d (I x24.fGames.a0), .d (I x24.fGames.a1), .d (I x24.fGames.a2)]), (260008, .cells b119 [.d (I x24.fBowler), .d (I x24.fWeek)]), (260009, .cells y [.d (I c12.fNumber), .d (I c12.fBowler), .d (I c12.fWeek), .d (I c12.fGames.a0), .d (I c12.fGames.a1), .d (I c12.fGames.a2)]), (260017, .map b4 (List.map (fun p => (.agg [I p.1.fBowler, I p.1.fWeek], .agg [I p.2.fNumber, I p.2.fBowler, I p.2.fWeek, I p.2.fGames.a0, I p.2.fGames.a1, I p.2.fGames.a2])) m14))]) (fun _ => True) ?_ ?_
       ·obtain ⟨⟨v53, is36⟩, hx104, hx103⟩ := obind hx103
        conv => whnf
        refine DrawG.mk (.take 0 (.take 1 (.take 2 (.take 3 (.take 4 (.alt 5 [2, 1, 0] (.take 6 (.take 7 (.take 8 (.alt 9 [8, 7, 6, 2, 1, 0] (.alt 10 [8] (.take 11 .done) .nil) .nil)))) (.alt 9 [4, 3, 2, 1, 0] (.alt 5 [2, 1, 0] (.take 6 (.take 7 (.take 8 (.alt 10 [8] (.take 11 .done) .nil)))) .nil) .nil))))))) (by kernel_rfl) ?_
        conv => whnf
        refine Side.mk rfl ?_
        conv => whnf
        refine Side.mk rfl ?_
        conv => whnf
        refine Both.mk ?_ ?_
        ·conv => whnf
         refine Side.mk rfl (Need.mk rfl (Need.mk (fit_all (fun x : RateTurn => .agg [I x.fBowler, I x.fWeek]) (fun x : RateSheet => .agg [I x.fNumber, I x.fBowler, I x.fWeek, I x.fGames.a0, I x.fGames.a1, I x.fGames.a2]) fun _ => rfl) (LkG.mk (.agg [I v53.fNumber, I v53.fBowler, I v53.fWeek, I v53.fGames.a0, I v53.fGames.a1, I v53.fGames.a2]) is36 (mgt_v (eK := (fun x : RateTurn => .agg [I x.fBowler, I x.fWeek])) (eV := (fun x : RateSheet => .agg [I x.fNumber, I x.fBowler, I x.fWeek, I x.fGames.a0, I x.fGames.a1, I x.fGames.a2])) RateTurn.eqc hx104) (mgt_b (eK := (fun x : RateTurn => .agg [I x.fBowler, I x.fWeek])) (eV := (fun x : RateSheet => .agg [I x.fNumber, I x.fBowler, I x.fWeek, I x.fGames.a0, I x.fGames.a1, I x.fGames.a2])) RateTurn.eqc hx104) ?_)))
         conv => whnf
         refine Need.mk (AV.le_refl _) ?_
         conv => whnf
         refine Need.mk (AV.le_refl _) ?_
         conv => whnf
         refine Need.mk (AV.le_refl _) ?_
         conv => whnf
         refine Both.mk ?_ trivial
         conv => whnf
         intro b124
         conv => whnf
         refine Need.mk (AV.le_refl _) ?_
         conv => whnf
         refine Need.mk (AV.le_refl _) ?_
         conv => whnf
         refine Need.mk (AV.le_refl _) ?_
         conv => whnf
         refine Need.mk (AV.le_refl _) ?_
         conv => whnf
         refine Need.mk (AV.le_refl _) ?_
         conv => whnf
         refine Need.mk (AV.le_refl _) ?_
         conv => whnf
         refine Both.mk ?_ trivial
         conv => whnf
         refine Side.mk rfl ?_
         conv => whnf
         refine Need.mk (AV.le_refl _) ?_
         cases hx103
         conv => whnf
         refine ⟨b124, trivial, Sub.eq rfl ?_ ?_⟩
         ·repeat ((conv => whnf); refine Need.mk rfl ?_)
          exact trivial
         ·conv => whnf
          refine Need.mk (OLe.refl _) ?_
          conv => whnf
          refine Need.mk (OLe.refl _) ?_
          conv => whnf
          refine Need.mk (OLe.refl _) ?_
          conv => whnf
          refine Need.mk (OLe.refl _) ?_
          conv => whnf
          refine Need.mk (OLe.refl _) ?_
          exact trivial
        ·conv => whnf
         refine Both.mk ?_ trivial
         conv => whnf
         intro b125
         conv => whnf
         refine Side.mk rfl ?_
         conv => whnf
         refine Need.mk (AV.le_refl _) ?_
         conv => whnf
         refine Side.mk rfl ?_
         conv => whnf
         refine Need.mk (AV.le_refl _) ?_
         conv => whnf
         refine Need.mk (AV.le_refl _) ?_
         conv => whnf
         refine Need.mk (AV.le_refl _) ?_
         conv => whnf
         refine Need.mk (AV.le_refl _) ?_
         conv => whnf
         refine Both.mk ?_ trivial
         conv => whnf
         refine Side.mk rfl (Need.mk rfl (Need.mk (fit_all (fun x : RateTurn => .agg [I x.fBowler, I x.fWeek]) (fun x : RateSheet => .agg [I x.fNumber, I x.fBowler, I x.fWeek, I x.fGames.a0, I x.fGames.a1, I x.fGames.a2]) fun _ => rfl) (LkG.mk (.agg [I v53.fNumber, I v53.fBowler, I v53.fWeek, I v53.fGames.a0, I v53.fGames.a1, I v53.fGames.a2]) is36 (mgt_v (eK := (fun x : RateTurn => .agg [I x.fBowler, I x.fWeek])) (eV := (fun x : RateSheet => .agg [I x.fNumber, I x.fBowler, I x.fWeek, I x.fGames.a0, I x.fGames.a1, I x.fGames.a2])) RateTurn.eqc hx104) (mgt_b (eK := (fun x : RateTurn => .agg [I x.fBowler, I x.fWeek])) (eV := (fun x : RateSheet => .agg [I x.fNumber, I x.fBowler, I x.fWeek, I x.fGames.a0, I x.fGames.a1, I x.fGames.a2])) RateTurn.eqc hx104) ?_)))
         conv => whnf
         refine Need.mk (AV.le_refl _) ?_
         conv => whnf
         refine Need.mk (AV.le_refl _) ?_
         conv => whnf
         refine Need.mk (AV.le_refl _) ?_
         conv => whnf
         refine Both.mk ?_ trivial
         conv => whnf
         refine Side.mk rfl ?_
         conv => whnf
         refine Need.mk (AV.le_refl _) ?_
         cases hx103
         conv => whnf
         refine ⟨b125, trivial, Sub.eq rfl ?_ ?_⟩
         ·repeat ((conv => whnf); refine Need.mk rfl ?_)
          exact trivial
         ·conv => whnf
          refine Need.mk (OLe.refl _) ?_
          conv => whnf
          refine Need.mk (OLe.refl _) ?_
          conv => whnf
          refine Need.mk (OLe.refl _) ?_
          conv => whnf
          refine Need.mk (OLe.refl _) ?_
          conv => whnf
          refine Need.mk (OLe.refl _) ?_
          exact trivial
       ·rintro bb12 _
        obtain ⟨v54, hx106, hx99⟩ := obind hx99
        conv => whnf
        refine SeqG.mk Unit (fun y => [(1, .d (.ref (.agg [I b1.fLaw.fBase, I b1.fLaw.fPercent, I b1.fLaw.fCap, I b1.fLaw.fLeast, I b1.fLaw.fBlind, .list 1 (List.map I b1.fBowlers), .list 6 (List.map RateSheet.enc b1.fSheets), .list 1 (List.map I b1.fWithdrawn)]))), (5, .ptr 260019 b5 0), (7, .ptr 260007 b117 0), (8, .ptr 260008 b119 0), (21, .d (.list 6 (List.map RateSheet.enc b1.fSheets))), (22, .d (I v47)), (23, .d (I v48)), (57, .d (.bool v54))]) (fun y => [(260019, .cells b5 [.d (I b1.fLaw.fBase), .d (I b1.fLaw.fPercent), .d (I b1.fLaw.fCap), .d (I b1.fLaw.fLeast), .d (I b1.fLaw.fBlind), .d (.list 1 (List.map I b1.fBowlers)), .d (.list 6 (List.map RateSheet.enc b1.fSheets)), .d (.list 1 (List.map I b1.fWithdrawn)), .mp 260017 b4]), (260007, .cells b117 [.d (I x24.fNumber), .d (I x24.fBowler), .d (I x24.fWeek), .d (I x24.fGames.a0), .d (I x24.fGames.a1), .d (I x24.fGames.a2)]), (260008, .cells b119 [.d (I x24.fBowler), .d (I x24.fWeek)]), (260017, .map b4 (List.map (fun p => (.agg [I p.1.fBowler, I p.1.fWeek], .agg [I p.2.fNumber, I p.2.fBowler, I p.2.fWeek, I p.2.fGames.a0, I p.2.fGames.a1, I p.2.fGames.a2])) m14))]) (fun _ => True) ?_ ?_
        ·conv => whnf
         refine Side.mk rfl ?_
         obtain ⟨r28, hx107, hx106⟩ := obind hx106
         conv => whnf
         refine CallG.pure _ (slicesContainsC hN hx107) ?_
         conv => whnf
         refine Br.mk (fun hc72 => ?_) (fun hc72 => ?_)
         ·replace hx106 := ite_t hc72 hx106
          conv => whnf
          refine Br.mk (fun hc73 => ?_) (fun hc73 => ?_)
          ·replace hx106 := ite_f hc73 hx106
           conv => whnf
           refine Side.mk rfl ?_
           conv => whnf
           refine Side.mk rfl ?_
           cases hx106
           conv => whnf
           refine ⟨(), trivial, Sub.eq rfl ?_ ?_⟩
           ·repeat ((conv => whnf); refine Need.mk rfl ?_)
            exact trivial
           ·conv => whnf
            refine Need.mk (OLe.refl _) ?_
            conv => whnf
            refine Need.mk (OLe.refl _) ?_
            conv => whnf
            refine Need.mk (OLe.refl _) ?_
            conv => whnf
            refine Need.mk (OLe.refl _) ?_
            exact trivial
          ·replace hx106 := ite_t hc73 hx106
           cases hx106
           conv => whnf
           refine ⟨(), trivial, Sub.eq rfl ?_ ?_⟩
           ·repeat ((conv => whnf); refine Need.mk rfl ?_)
            exact trivial
           ·conv => whnf
            refine Need.mk (OLe.refl _) ?_
            conv => whnf
            refine Need.mk (OLe.refl _) ?_
            conv => whnf
            refine Need.mk (OLe.refl _) ?_
            conv => whnf
            refine Need.mk (OLe.refl _) ?_
            exact trivial
         ·replace hx106 := ite_f hc72 hx106
          cases hx106
          conv => whnf
          refine ⟨(), trivial, Sub.eq rfl ?_ ?_⟩
          ·repeat ((conv => whnf); refine Need.mk rfl ?_)
           exact trivial
          ·conv => whnf
           refine Need.mk (OLe.refl _) ?_
           conv => whnf
           refine Need.mk (OLe.refl _) ?_
           conv => whnf
           refine Need.mk (OLe.refl _) ?_
           conv => whnf
           refine Need.mk (OLe.refl _) ?_
           exact trivial
        ·rintro _ _
         conv => whnf
         refine Br.mk (fun hc74 => ?_) (fun hc74 => ?_)
         ·replace hx99 := ite_t hc74 hx99
          conv => whnf
          refine DrawG.mk (.take 0 (.take 1 (.take 2 (.take 3 (.take 4 (.take 5 (.alt 6 [] .done .nil))))))) (by kernel_rfl) ?_
          conv => whnf
          refine Side.mk rfl ?_
          conv => whnf
          refine Side.mk rfl ?_
          conv => whnf
          refine Side.mk rfl ?_
          conv => whnf
          refine Both.mk ?_ trivial
          conv => whnf
          refine Side.mk rfl (Need.mk rfl (Need.mk (fit_all (fun x : RateTurn => .agg [I x.fBowler, I x.fWeek]) (fun x : RateSheet => .agg [I x.fNumber, I x.fBowler, I x.fWeek, I x.fGames.a0, I x.fGames.a1, I x.fGames.a2]) fun _ => rfl) (MEqv.mk (List.map (fun p => (.agg [I p.1.fBowler, I p.1.fWeek], .agg [I p.2.fNumber, I p.2.fBowler, I p.2.fWeek, I p.2.fGames.a0, I p.2.fGames.a1, I p.2.fGames.a2])) (mput m14 (RateTurn.mk x24.fBowler x24.fWeek) x24)) (mput_D (eK := (fun x : RateTurn => .agg [I x.fBowler, I x.fWeek])) (eV := (fun x : RateSheet => .agg [I x.fNumber, I x.fBowler, I x.fWeek, I x.fGames.a0, I x.fGames.a1, I x.fGames.a2])) RateTurn.eqc m14 (RateTurn.mk x24.fBowler x24.fWeek) x24) ?_)))
          cases hx99
          conv => whnf
          refine ⟨(), trivial, Sub.eq rfl ?_ ?_⟩
          ·repeat ((conv => whnf); refine Need.mk rfl ?_)
           exact trivial
          ·conv => whnf
           refine Need.mk (OLe.refl _) ?_
           conv => whnf
           refine Need.mk (OLe.refl _) ?_
           exact trivial
         ·replace hx99 := ite_f hc74 hx99
          cases hx99
          conv => whnf
          refine ⟨(), trivial, Sub.eq rfl ?_ ?_⟩
          ·repeat ((conv => whnf); refine Need.mk rfl ?_)
           exact trivial
          ·conv => whnf
           refine Need.mk (OLe.refl _) ?_
           conv => whnf
           refine Need.mk (OLe.refl _) ?_
           exact trivial
      ·rintro _ _
       conv => whnf
       refine ⟨(n2, (v47, w64 (v48 + 1), m15)), hl2, Sub.eq rfl ?_ ?_, Nat.lt_succ_self _⟩
       ·repeat ((conv => whnf); refine Need.mk rfl ?_)
        exact trivial
       ·conv => whnf
        refine Need.mk (OLe.refl _) ?_
        conv => whnf
        refine Need.mk (OLe.refl _) ?_
        exact trivial
     ·replace hl2 := ite_f hc64 hl2
      cases hl2
      conv => whnf
      refine ⟨(), trivial, Sub.eq rfl ?_ ?_⟩
      ·repeat ((conv => whnf); refine Need.mk rfl ?_)
       exact trivial
      ·conv => whnf
       refine Need.mk (OLe.refl _) ?_
       conv => whnf
       refine Need.mk (OLe.refl _) ?_
       exact trivial
   ·rintro _ _
    conv => whnf
    cases h
    exact ⟨_, ⟨(b5, b4), trivial, rfl, rfl⟩, inO_at (ren := id) (And.intro rfl (And.intro rfl trivial))⟩

theorem rateCountingWC {N : Nat} (hN : N ≤ 1073741824) {b1 : RateBook} {Q : ((List Int) × Int) → Prop} (h : rateCountingW N b1 Q) :
    ACalls Try.prog 21 [.d (.agg [I b1.fLaw.fBase, I b1.fLaw.fPercent, I b1.fLaw.fCap, I b1.fLaw.fLeast, I b1.fLaw.fBlind, .list 1 (List.map I b1.fBowlers), .list 6 (List.map RateSheet.enc b1.fSheets), .list 1 (List.map I b1.fWithdrawn)])] [] (fun ae os => ∃ r : (List Int) × Int, Q r ∧ (fun e os => e = .ret (.d (.tup [.list 1 (List.map I r.1), I r.2])) ∧ os = []) ae os) := by
  refine acalls_pred (fresh := false) tt_ok dr_ok ⟨[1], [], [32], [], [1005], 0, []⟩ Try.func21 rfl Try.call21 rfl ?_
  unfold rateCountingW at h
  obtain ⟨z2, hx2, h⟩ := bindO_el h
  rcases z2 with r2 | ⟨ra2, rb2, rc2, rd2, re2, rf2, rg2, rh2, ri2, rj2⟩
  ·conv => whnf
   refine CallG.own (rateBookReadC hN hx2) id [] _ (fun y => []) (all2_le_refl _) trivial rfl trivial trivial (fun _ => AV.le_refl _) (fun _ => rfl) ?_
   rintro _ _
   conv => whnf
   refine Br.mk (fun hc2 => ?_) (fun hc2 => ?_)
   ·replace h := ite_tW hc2 h
    conv => whnf
    have hv : Q _ := h
    exact ⟨[], ⟨_, hv, rfl, rfl⟩, fun _ hq => nomatch hq⟩
   ·replace h := ite_fW hc2 h
    cases h
  ·conv => whnf
   refine CallG.own (rateBookReadC hN hx2) id [] _ (fun y => [(260019, .cells y.1 [.d (I rb2), .d (I rc2), .d (I rd2), .d (I re2), .d (I rf2), .d (.list 1 (List.map I rg2)), .d (.list 6 (List.map RateSheet.enc rh2)), .d (.list 1 (List.map I ri2)), .mp 260017 y.2]), (260017, .map y.2 (List.map (fun p => (.agg [I p.1.fBowler, I p.1.fWeek], .agg [I p.2.fNumber, I p.2.fBowler, I p.2.fWeek, I p.2.fGames.a0, I p.2.fGames.a1, I p.2.fGames.a2])) rj2))]) (all2_le_refl _) trivial rfl trivial trivial (fun _ => AV.le_refl _) (fun _ => rfl) ?_
   rintro ⟨b4, b5⟩ _
   conv => whnf
   refine Br.mk (fun hc4 => ?_) (fun hc4 => ?_)
   ·replace h := ite_tW hc4 h
    conv => whnf
    have hv : Q _ := h
    exact ⟨[], ⟨_, hv, rfl, rfl⟩, fun _ hq => nomatch hq⟩
   ·replace h := ite_fW hc4 h
    conv => whnf
    refine SeqG.mk ((List Int) × Value) (fun y => [(6, .sl 30 y.2)]) (fun y => [(30, .arr y.2 3 1 false (List.map I y.1))]) (fun y => rateCountingW_k1 N y.1 Q) ?_ ?_
    ·conv => whnf
     refine Side.mk rfl ?_
     conv => whnf
     refine Side.mk rfl ?_
     intro ib4
     conv => whnf
     refine LoopG.mk (Nat × ((List Int) × (List (RateTurn × RateSheet))) × Value) (fun y => [(6, .sl 30 y.2.2), (21, .it 21 ib4)]) (fun y => [(30, .arr y.2.2 3 1 false (List.map I y.2.1.1)), (21, .mit ib4 260017 b5 (List.map (fun p => (.agg [I p.1.fBowler, I p.1.fWeek], .agg [I p.2.fNumber, I p.2.fBowler, I p.2.fWeek, I p.2.fGames.a0, I p.2.fGames.a1, I p.2.fGames.a2])) rj2) (List.map (fun p => (.agg [I p.1.fBowler, I p.1.fWeek], .agg [I p.2.fNumber, I p.2.fBowler, I p.2.fWeek, I p.2.fGames.a0, I p.2.fGames.a1, I p.2.fGames.a2])) y.2.1.2) none), (260017, .map b5 (List.map (fun p => (.agg [I p.1.fBowler, I p.1.fWeek], .agg [I p.2.fNumber, I p.2.fBowler, I p.2.fWeek, I p.2.fGames.a0, I p.2.fGames.a1, I p.2.fGames.a2])) rj2))]) (fun y => loopW (fun rr x => rateCountingW_b2 N rr x.1 x.2) y.1 y.2.1 Q) (fun y => y.1) (N, ([], rj2), (.slice none 0 0)) h (Sub.eq rfl ?_ ?_) ?_
     ·repeat ((conv => whnf); refine Need.mk rfl ?_)
      exact trivial
     ·conv => whnf
      refine Need.mk (OLe.nil _ _ _ _) ?_
      conv => whnf
      refine Need.mk (OLe.refl _) ?_
      conv => whnf
      refine Need.mk (OLe.refl _) ?_
      exact trivial
     ·rintro ⟨n2, ⟨l14, rem18⟩, hd19⟩ hl2
      obtain ⟨n2, rfl, hl2⟩ := loopW_some hl2
      replace hl2 : rateCountingW_b2 N (loopW (fun rr x => rateCountingW_b2 N rr x.1 x.2) n2) l14 rem18 Q := hl2
      rw [rateCountingW_b2] at hl2
      conv => whnf
      refine Side.mk ⟨rfl, rfl, rfl⟩ (NextG.of (fun p => (.agg [I p.1.fBowler, I p.1.fWeek], .agg [I p.2.fNumber, I p.2.fBowler, I p.2.fWeek, I p.2.fGames.a0, I p.2.fGames.a1, I p.2.fGames.a2])) rem18 rfl (fun h0 => ?_) ?_)
      ·replace hl2 := nextW_0 hl2 h0
       conv => whnf
       refine ⟨(l14, hd19), hl2, Sub.eq rfl ?_ ?_⟩
       ·repeat ((conv => whnf); refine Need.mk rfl ?_)
        exact trivial
       ·conv => whnf
        refine Need.mk (OLe.refl _) ?_
        exact trivial
      ·rintro ⟨k12, v18⟩ rem20 hs
       replace hl2 := nextW_1 hl2 hs
       conv => whnf
       refine Side.mk ⟨rfl, rfl, rfl⟩ ?_
       conv => whnf
       intro b17
       conv => whnf
       refine Side.mk rfl ?_
       conv => whnf
       refine Side.mk rfl ?_
       conv => whnf
       intro hd20
       obtain ⟨l15, hx10, hl2⟩ := bindO_el hl2
       conv => whnf
       refine Side.mk ⟨rfl, rfl⟩ ?_
       conv => whnf
       refine Side.mk ⟨rfl, rfl, rfl⟩ (Need.mk (app_need hN hx10 (by decide)) (Eqv.mk (List.map I l15) (app_map _ hx10) ?_))
       conv => whnf
       intro hd21
       conv => whnf
       refine ⟨(n2, (l15, rem20), hd21), hl2, Sub.eq rfl ?_ ?_, Nat.lt_succ_self _⟩
       ·repeat ((conv => whnf); refine Need.mk rfl ?_)
        exact trivial
       ·conv => whnf
        refine Need.mk (OLe.refl _) ?_
        conv => whnf
        refine Need.mk (OLe.mit _ _ _ _ _ _) ?_
        conv => whnf
        refine Need.mk (OLe.refl _) ?_
        exact trivial
    ·clear h
     rintro ⟨l8, hd11⟩ h
     unfold rateCountingW_k1 at h
     obtain ⟨r4, hx7, h⟩ := bindO_el h
     conv => whnf
     refine CallG.own (sortIC (k := 30) (ho := hd11) hN hx7) id [] _ (fun y => [(30, .arr hd11 3 1 false (List.map I r4))]) (all2_le_refl _) (And.intro rfl trivial) rfl (And.intro rfl trivial) trivial (fun _ => AV.le_refl _) (fun _ => rfl) ?_
     rintro _ _
     conv => whnf
     refine Side.mk rfl ?_
     conv => whnf
     have hv : Q _ := h
     exact ⟨[], ⟨_, hv, rfl, rfl⟩, fun _ hq => nomatch hq⟩

theorem rateCountingC {N : Nat} (hN : N ≤ 1073741824) {b1 : RateBook} {r : (List Int) × Int} (h : rateCounting N b1 = some r) :
    ACalls Try.prog 21 [.d (.agg [I b1.fLaw.fBase, I b1.fLaw.fPercent, I b1.fLaw.fCap, I b1.fLaw.fLeast, I b1.fLaw.fBlind, .list 1 (List.map I b1.fBowlers), .list 6 (List.map RateSheet.enc b1.fSheets), .list 1 (List.map I b1.fWithdrawn)])] [] (fun e os => e = .ret (.d (.tup [.list 1 (List.map I r.1), I r.2])) ∧ os = []) := (rateCountingWC hN (det_some h)).mono (by rintro ae os ⟨x, rfl, hp⟩; exact hp)

def rateBookAskedP  : Int ⊕ (Int × Int × Int × Int × Int × Int × (List Int) × (List RateSheet) × (List Int) × (List (RateTurn × RateSheet))) → AE → List (Nat × Ob) → Prop
  | .inl r => fun ae os => ∃ y : Unit, True ∧ ae = .ret (.d (.tup [.nilptr, I r])) ∧ os = []
  | .inr r => fun ae os => ∃ y : Nat × Nat, True ∧ ae = .ret (.tup [.ptr 260019 y.1 0, .d (I r.1)]) ∧ os = [(260019, .cells y.1 [.d (I r.2.1), .d (I r.2.2.1), .d (I r.2.2.2.1), .d (I r.2.2.2.2.1), .d (I r.2.2.2.2.2.1), .d (.list 1 (List.map I r.2.2.2.2.2.2.1)), .d (.list 6 (List.map RateSheet.enc r.2.2.2.2.2.2.2.1)), .d (.list 1 (List.map I r.2.2.2.2.2.2.2.2.1)), .mp 260017 y.2]), (260017, .map y.2 (List.map (fun p => (.agg [I p.1.fBowler, I p.1.fWeek], .agg [I p.2.fNumber, I p.2.fBowler, I p.2.fWeek, I p.2.fGames.a0, I p.2.fGames.a1, I p.2.fGames.a2])) r.2.2.2.2.2.2.2.2.2))]

theorem rateBookAskedC {N : Nat} (hN : N ≤ 1073741824) {b1 : RateBook} {bowler1 : Int} {w1 : Int} {r : Int ⊕ (Int × Int × Int × Int × Int × Int × (List Int) × (List RateSheet) × (List Int) × (List (RateTurn × RateSheet)))} (h : rateBookAsked N b1 bowler1 w1 = some r) :
    ACalls Try.prog 54 [.d (.agg [I b1.fLaw.fBase, I b1.fLaw.fPercent, I b1.fLaw.fCap, I b1.fLaw.fLeast, I b1.fLaw.fBlind, .list 1 (List.map I b1.fBowlers), .list 6 (List.map RateSheet.enc b1.fSheets), .list 1 (List.map I b1.fWithdrawn)]), .d (I bowler1), .d (I w1)] [] (rateBookAskedP  r) := by
  refine acalls_pred (fresh := false) tt_ok dr_ok ⟨[3], [], [], [], [2, 1002], 275000, []⟩ Try.func54 rfl Try.call54 rfl ?_
  unfold rateBookAsked at h
  obtain ⟨z2, hx2, h⟩ := obind h
  rcases z2 with r2 | ⟨ra2, rb2, rc2, rd2, re2, rf2, rg2, rh2, ri2, rj2⟩
  ·conv => whnf
   refine CallG.own (rateBookReadC hN hx2) id [] _ (fun y => []) (all2_le_refl _) trivial rfl trivial trivial (fun _ => AV.le_refl _) (fun _ => rfl) ?_
   rintro _ _
   obtain ⟨e1, hx8, h⟩ := obind h
   conv => whnf
   refine SeqG.mk Unit (fun y => [(8, .d .nilptr), (9, .d (I e1))]) (fun y => []) (fun _ => True) ?_ ?_
   ·obtain ⟨v2, hx11, hx8⟩ := obind hx8
    conv => whnf
    refine SeqG.mk Unit (fun y => [(8, .d .nilptr), (9, .d (I r2)), (27, .d (.bool v2))]) (fun y => []) (fun _ => True) ?_ ?_
    ·conv => whnf
     refine Br.mk (fun hc8 => ?_) (fun hc8 => ?_)
     ·replace hx11 := ite_t hc8 hx11
      obtain ⟨r9, hx12, hx11⟩ := obind hx11
      conv => whnf
      refine CallG.pure _ (rateBookBowlerC hN hx12) ?_
      conv => whnf
      refine Br.mk (fun hc9 => ?_) (fun hc9 => ?_)
      ·replace hx11 := ite_f hc9 hx11
       obtain ⟨r10, hx13, hx11⟩ := obind hx11
       conv => whnf
       refine CallG.pure _ (rateWeekC hN hx13) ?_
       cases hx11
       conv => whnf
       refine ⟨(), trivial, Sub.eq rfl ?_ ?_⟩
       ·repeat ((conv => whnf); refine Need.mk rfl ?_)
        exact trivial
       ·exact trivial
      ·replace hx11 := ite_t hc9 hx11
       cases hx11
       conv => whnf
       refine ⟨(), trivial, Sub.eq rfl ?_ ?_⟩
       ·repeat ((conv => whnf); refine Need.mk rfl ?_)
        exact trivial
       ·exact trivial
     ·replace hx11 := ite_f hc8 hx11
      cases hx11
      conv => whnf
      refine ⟨(), trivial, Sub.eq rfl ?_ ?_⟩
      ·repeat ((conv => whnf); refine Need.mk rfl ?_)
       exact trivial
      ·exact trivial
    ·rintro _ _
     conv => whnf
     refine Br.mk (fun hc10 => ?_) (fun hc10 => ?_)
     ·replace hx8 := ite_t hc10 hx8
      cases hx8
      conv => whnf
      refine ⟨(), trivial, Sub.eq rfl ?_ ?_⟩
      ·repeat ((conv => whnf); refine Need.mk rfl ?_)
       exact trivial
      ·exact trivial
     ·replace hx8 := ite_f hc10 hx8
      cases hx8
      conv => whnf
      refine ⟨(), trivial, Sub.eq rfl ?_ ?_⟩
      ·repeat ((conv => whnf); refine Need.mk rfl ?_)
       exact trivial
      ·exact trivial
   ·rintro _ _
    conv => whnf
    cases h
    exact ⟨_, ⟨(), trivial, rfl, rfl⟩, inO_at (ren := id) trivial⟩
  ·conv => whnf
   refine CallG.own (rateBookReadC hN hx2) id [] _ (fun y => [(260019, .cells y.1 [.d (I rb2), .d (I rc2), .d (I rd2), .d (I re2), .d (I rf2), .d (.list 1 (List.map I rg2)), .d (.list 6 (List.map RateSheet.enc rh2)), .d (.list 1 (List.map I ri2)), .mp 260017 y.2]), (260017, .map y.2 (List.map (fun p => (.agg [I p.1.fBowler, I p.1.fWeek], .agg [I p.2.fNumber, I p.2.fBowler, I p.2.fWeek, I p.2.fGames.a0, I p.2.fGames.a1, I p.2.fGames.a2])) rj2))]) (all2_le_refl _) trivial rfl trivial trivial (fun _ => AV.le_refl _) (fun _ => rfl) ?_
   rintro ⟨b4, b5⟩ _
   obtain ⟨e2, hx19, h⟩ := obind h
   conv => whnf
   refine SeqG.mk Unit (fun y => [(8, .ptr 260019 b4 0), (9, .d (I e2))]) (fun y => [(260019, .cells b4 [.d (I rb2), .d (I rc2), .d (I rd2), .d (I re2), .d (I rf2), .d (.list 1 (List.map I rg2)), .d (.list 6 (List.map RateSheet.enc rh2)), .d (.list 1 (List.map I ri2)), .mp 260017 b5]), (260017, .map b5 (List.map (fun p => (.agg [I p.1.fBowler, I p.1.fWeek], .agg [I p.2.fNumber, I p.2.fBowler, I p.2.fWeek, I p.2.fGames.a0, I p.2.fGames.a1, I p.2.fGames.a2])) rj2))]) (fun _ => True) ?_ ?_
   ·obtain ⟨v4, hx22, hx19⟩ := obind hx19
    conv => whnf
    refine SeqG.mk Unit (fun y => [(8, .ptr 260019 b4 0), (9, .d (I ra2)), (27, .d (.bool v4))]) (fun y => [(260019, .cells b4 [.d (I rb2), .d (I rc2), .d (I rd2), .d (I re2), .d (I rf2), .d (.list 1 (List.map I rg2)), .d (.list 6 (List.map RateSheet.enc rh2)), .d (.list 1 (List.map I ri2)), .mp 260017 b5]), (260017, .map b5 (List.map (fun p => (.agg [I p.1.fBowler, I p.1.fWeek], .agg [I p.2.fNumber, I p.2.fBowler, I p.2.fWeek, I p.2.fGames.a0, I p.2.fGames.a1, I p.2.fGames.a2])) rj2))]) (fun _ => True) ?_ ?_
    ·conv => whnf
     refine Br.mk (fun hc18 => ?_) (fun hc18 => ?_)
     ·replace hx22 := ite_t hc18 hx22
      obtain ⟨r17, hx23, hx22⟩ := obind hx22
      conv => whnf
      refine CallG.pure _ (rateBookBowlerC hN hx23) ?_
      conv => whnf
      refine Br.mk (fun hc19 => ?_) (fun hc19 => ?_)
      ·replace hx22 := ite_f hc19 hx22
       obtain ⟨r18, hx24, hx22⟩ := obind hx22
       conv => whnf
       refine CallG.pure _ (rateWeekC hN hx24) ?_
       cases hx22
       conv => whnf
       refine ⟨(), trivial, Sub.eq rfl ?_ ?_⟩
       ·repeat ((conv => whnf); refine Need.mk rfl ?_)
        exact trivial
       ·conv => whnf
        refine Need.mk (OLe.refl _) ?_
        conv => whnf
        refine Need.mk (OLe.refl _) ?_
        exact trivial
      ·replace hx22 := ite_t hc19 hx22
       cases hx22
       conv => whnf
       refine ⟨(), trivial, Sub.eq rfl ?_ ?_⟩
       ·repeat ((conv => whnf); refine Need.mk rfl ?_)
        exact trivial
       ·conv => whnf
        refine Need.mk (OLe.refl _) ?_
        conv => whnf
        refine Need.mk (OLe.refl _) ?_
        exact trivial
     ·replace hx22 := ite_f hc18 hx22
      cases hx22
      conv => whnf
      refine ⟨(), trivial, Sub.eq rfl ?_ ?_⟩
      ·repeat ((conv => whnf); refine Need.mk rfl ?_)
       exact trivial
      ·conv => whnf
       refine Need.mk (OLe.refl _) ?_
       conv => whnf
       refine Need.mk (OLe.refl _) ?_
       exact trivial
    ·rintro _ _
     conv => whnf
     refine Br.mk (fun hc20 => ?_) (fun hc20 => ?_)
     ·replace hx19 := ite_t hc20 hx19
      cases hx19
      conv => whnf
      refine ⟨(), trivial, Sub.eq rfl ?_ ?_⟩
      ·repeat ((conv => whnf); refine Need.mk rfl ?_)
       exact trivial
      ·conv => whnf
       refine Need.mk (OLe.refl _) ?_
       conv => whnf
       refine Need.mk (OLe.refl _) ?_
       exact trivial
     ·replace hx19 := ite_f hc20 hx19
      cases hx19
      conv => whnf
      refine ⟨(), trivial, Sub.eq rfl ?_ ?_⟩
      ·repeat ((conv => whnf); refine Need.mk rfl ?_)
       exact trivial
      ·conv => whnf
       refine Need.mk (OLe.refl _) ?_
       conv => whnf
       refine Need.mk (OLe.refl _) ?_
       exact trivial
   ·rintro _ _
    conv => whnf
    cases h
    exact ⟨_, ⟨(b4, b5), trivial, rfl, rfl⟩, inO_at (ren := id) (And.intro rfl (And.intro rfl trivial))⟩

theorem rateSumC {N : Nat} (hN : N ≤ 1073741824) {l1 : List Int} {r : Int} (h : rateSum N l1 = some r) :
    ACalls Try.prog 61 [.d (.list 1 (List.map I l1))] [] fun e os => e = .ret (.d (I r)) ∧ os = [] := by
  refine acalls_f (fresh := false) tt_ok dr_ok ⟨[], [], [], [], [1001], 0, []⟩ Try.func61 rfl Try.call61 rfl ?_
  unfold rateSum at h
  obtain ⟨n6, hx13, h⟩ := obind h
  conv => whnf
  refine SeqG.mk Unit (fun y => [(2, .d (I n6))]) (fun y => []) (fun _ => True) ?_ ?_
  ·conv => whnf
   refine LnA.mk _ (List.length_map _) ?_
   conv => whnf
   refine LoopG.mk (Nat × (Int × Int × Int)) (fun y => [(2, .d (I y.2.1)), (5, .d (.list 1 (List.map I l1))), (6, .d (I y.2.2.1)), (7, .d (I y.2.2.2))]) (fun y => []) (fun y => loopN (fun rr x => rateSum_b1 N l1 rr x.1 x.2.1 x.2.2) y.1 y.2 = some n6) (fun y => y.1) (N, (0, (l1.length : Int), 0)) hx13 (Sub.eq rfl ?_ ?_) ?_
   ·repeat ((conv => whnf); refine Need.mk rfl ?_)
    exact trivial
   ·exact trivial
   ·rintro ⟨n11, ⟨n10, v17, v18⟩⟩ hl2
    obtain ⟨n11, rfl, hl2⟩ := loopN_some hl2
    replace hl2 : rateSum_b1 N l1 (loopN (fun rr x => rateSum_b1 N l1 rr x.1 x.2.1 x.2.2) n11) n10 v17 v18 = some n6 := hl2
    rw [rateSum_b1] at hl2
    conv => whnf
    refine Br.mk (fun hc12 => ?_) (fun hc12 => ?_)
    ·replace hl2 := ite_t hc12 hl2
     obtain ⟨x24, hx25, hl2⟩ := obind hl2
     conv => whnf
     refine Side.mk rfl ⟨_, idx_0 hx25, idx_map _ hx25, ?_⟩
     conv => whnf
     refine ⟨(n11, (w64 (n10 + x24), v17, w64 (v18 + 1))), hl2, Sub.eq rfl ?_ ?_, Nat.lt_succ_self _⟩
     ·repeat ((conv => whnf); refine Need.mk rfl ?_)
      exact trivial
     ·exact trivial
    ·replace hl2 := ite_f hc12 hl2
     cases hl2
     conv => whnf
     refine ⟨(), trivial, Sub.eq rfl ?_ ?_⟩
     ·repeat ((conv => whnf); refine Need.mk rfl ?_)
      exact trivial
     ·exact trivial
  ·rintro _ _
   conv => whnf
   cases h
   exact rfl

theorem rateReadCountingC {N : Nat} (hN : N ≤ 1073741824) {bowler1 : Int} {before1 : Int} {c1 : Int} {c2 : Int} {c3 : Int} {c4 : Int} {c5 : Int} {c6 : List Int} {c7 : List RateSheet} {c8 : List Int} {m1 : List (RateTurn × RateSheet)} {bo1 : Nat} {bo2 : Nat} {r : Int × Int} (h : rateReadCounting N bowler1 before1 c1 c2 c3 c4 c5 c6 c7 c8 m1 = some r) :
    ACalls Try.prog 80 [.ptr 260019 bo1 0, .d (I bowler1), .d (I before1)] [(260019, .cells bo1 [.d (I c1), .d (I c2), .d (I c3), .d (I c4), .d (I c5), .d (.list 1 (List.map I c6)), .d (.list 6 (List.map RateSheet.enc c7)), .d (.list 1 (List.map I c8)), .mp 260017 bo2]), (260017, .map bo2 (List.map (fun p => (.agg [I p.1.fBowler, I p.1.fWeek], .agg [I p.2.fNumber, I p.2.fBowler, I p.2.fWeek, I p.2.fGames.a0, I p.2.fGames.a1, I p.2.fGames.a2])) m1))] fun ae os => ∃ y : Nat, True ∧ ae = .ret (.fn (.func 98) [] [.d (.ref (.agg [I r.1])), .ptr 1405003 y 0, .d (.ref (.agg [I r.2]))]) ∧ os = [(260019, .cells bo1 [.d (I c1), .d (I c2), .d (I c3), .d (I c4), .d (I c5), .d (.list 1 (List.map I c6)), .d (.list 6 (List.map RateSheet.enc c7)), .d (.list 1 (List.map I c8)), .mp 260017 bo2]), (260017, .map bo2 (List.map (fun p => (.agg [I p.1.fBowler, I p.1.fWeek], .agg [I p.2.fNumber, I p.2.fBowler, I p.2.fWeek, I p.2.fGames.a0, I p.2.fGames.a1, I p.2.fGames.a2])) m1)), (1405003, .cells y [.ptr 260019 bo1 0])] := by
  refine acalls_own (fresh := false) tt_ok dr_ok ⟨[4, 5], [], [], [], [], 1405000, []⟩ Try.func80 rfl Try.call80 rfl ?_
  unfold rateReadCounting at h
  conv => whnf
  intro b2
  conv => whnf
  cases h
  exact ⟨b2, trivial, rfl, inO_at (ren := id) (And.intro rfl (And.intro rfl (And.intro rfl trivial)))⟩

theorem rateReadAverageC {N : Nat} (hN : N ≤ 1073741824) {bowler1 : Int} {before1 : Int} {besides1 : List Int} {c1 : Int} {c2 : Int} {c3 : Int} {c4 : Int} {c5 : Int} {c6 : List Int} {c7 : List RateSheet} {c8 : List Int} {m1 : List (RateTurn × RateSheet)} {bo1 : Nat} {bo2 : Nat} {r : Int} (h : rateReadAverage N bowler1 before1 besides1 c1 c2 c3 c4 c5 c6 c7 c8 m1 = some r) :
    ACalls Try.prog 55 [.ptr 260019 bo1 0, .d (I bowler1), .d (I before1), .d (.list 1 (List.map I besides1))] [(260019, .cells bo1 [.d (I c1), .d (I c2), .d (I c3), .d (I c4), .d (I c5), .d (.list 1 (List.map I c6)), .d (.list 6 (List.map RateSheet.enc c7)), .d (.list 1 (List.map I c8)), .mp 260017 bo2]), (260017, .map bo2 (List.map (fun p => (.agg [I p.1.fBowler, I p.1.fWeek], .agg [I p.2.fNumber, I p.2.fBowler, I p.2.fWeek, I p.2.fGames.a0, I p.2.fGames.a1, I p.2.fGames.a2])) m1))] fun ae os => ∃ y : Unit, True ∧ ae = .ret (.d (I r)) ∧ os = [(260019, .cells bo1 [.d (I c1), .d (I c2), .d (I c3), .d (I c4), .d (I c5), .d (.list 1 (List.map I c6)), .d (.list 6 (List.map RateSheet.enc c7)), .d (.list 1 (List.map I c8)), .mp 260017 bo2]), (260017, .map bo2 (List.map (fun p => (.agg [I p.1.fBowler, I p.1.fWeek], .agg [I p.2.fNumber, I p.2.fBowler, I p.2.fWeek, I p.2.fGames.a0, I p.2.fGames.a1, I p.2.fGames.a2])) m1))] := by
  refine acalls_own (fresh := false) tt_ok dr_ok ⟨[], [], [], [], [1002], 270000, []⟩ Try.func55 rfl Try.call55 rfl ?_
  unfold rateReadAverage at h
  conv => whnf
  refine LnA.mk _ (List.length_map _) ?_
  obtain ⟨r2, hx2, h⟩ := obind h
  conv => whnf
  refine CallG.pure _ (rateSumC hN hx2) ?_
  conv => whnf
  intro b3
  conv => whnf
  intro b4
  conv => whnf
  refine Side.mk rfl ?_
  conv => whnf
  refine Side.mk rfl ?_
  obtain ⟨⟨c36, c37⟩, hx53, h⟩ := obind h
  conv => whnf
  refine SeqG.mk Unit (fun y => [(0, .ptr 260019 bo1 0), (1, .d (I bowler1)), (9, .ptr 270009 b3 0), (10, .ptr 270010 b4 0)]) (fun y => [(260019, .cells bo1 [.d (I c1), .d (I c2), .d (I c3), .d (I c4), .d (I c5), .d (.list 1 (List.map I c6)), .d (.list 6 (List.map RateSheet.enc c7)), .d (.list 1 (List.map I c8)), .mp 260017 bo2]), (270009, .cells b3 [.d (I c36)]), (270010, .cells b4 [.d (I c37)]), (260017, .map bo2 (List.map (fun p => (.agg [I p.1.fBowler, I p.1.fWeek], .agg [I p.2.fNumber, I p.2.fBowler, I p.2.fWeek, I p.2.fGames.a0, I p.2.fGames.a1, I p.2.fGames.a2])) m1))]) (fun _ => True) ?_ ?_
  ·obtain ⟨⟨ra4, rb4⟩, hx55, hx53⟩ := obind hx53
   conv => whnf
   refine CallG.own (rateReadCountingC (bo1 := bo1) (bo2 := bo2) hN hx55) id [(270009, .cells b3 [.d (I (besides1.length : Int))]), (270010, .cells b4 [.d (I r2)])] _ (fun y => [(260019, .cells bo1 [.d (I c1), .d (I c2), .d (I c3), .d (I c4), .d (I c5), .d (.list 1 (List.map I c6)), .d (.list 6 (List.map RateSheet.enc c7)), .d (.list 1 (List.map I c8)), .mp 260017 bo2]), (260017, .map bo2 (List.map (fun p => (.agg [I p.1.fBowler, I p.1.fWeek], .agg [I p.2.fNumber, I p.2.fBowler, I p.2.fWeek, I p.2.fGames.a0, I p.2.fGames.a1, I p.2.fGames.a2])) m1)), (1405003, .cells y [.ptr 260019 bo1 0]), (270009, .cells b3 [.d (I (besides1.length : Int))]), (270010, .cells b4 [.d (I r2)])]) (all2_le_refl _) (And.intro rfl (And.intro rfl trivial)) rfl (And.intro rfl (And.intro rfl trivial)) (And.intro rfl (And.intro rfl trivial)) (fun _ => AV.le_refl _) (fun _ => rfl) ?_
   rintro b68 _
   conv => whnf
   intro lp2 rc2
   refine IterG.mk _ _ ⟨[], [], [], [], [3, 4], 2000, []⟩ Try.func98 rfl Try.call98 rfl rfl ?_
   conv => whnf
   refine LoopG.mk (Nat × (Int × Int × Int)) (fun y => [(0, .fn (.yield lp2) [] []), (2, .ptr 1405003 b68 0), (3, .d (.ref (.agg [I rb4]))), (8, .d (I ra4)), (9, .d (I y.2.1))]) (fun y => [(1405003, .cells b68 [.ptr 260019 bo1 0]), (260019, .cells bo1 [.d (I c1), .d (I c2), .d (I c3), .d (I c4), .d (I c5), .d (.list 1 (List.map I c6)), .d (.list 6 (List.map RateSheet.enc c7)), .d (.list 1 (List.map I c8)), .mp 260017 bo2]), (270009, .cells b3 [.d (I y.2.2.1)]), (270010, .cells b4 [.d (I y.2.2.2)]), (1000, .loop lp2 rc2 none), (260017, .map bo2 (List.map (fun p => (.agg [I p.1.fBowler, I p.1.fWeek], .agg [I p.2.fNumber, I p.2.fBowler, I p.2.fWeek, I p.2.fGames.a0, I p.2.fGames.a1, I p.2.fGames.a2])) m1))]) (fun y => loopN (fun rr x => rateReadAverage_b1 N m1 ra4 rb4 rr x.1 x.2.1 x.2.2) y.1 y.2 = some (c36, c37)) (fun y => y.1) (N, (0, (besides1.length : Int), r2)) hx53 (Sub.eq rfl ?_ ?_) ?_
   ·repeat ((conv => whnf); refine Need.mk rfl ?_)
    exact trivial
   ·conv => whnf
    refine Need.mk (OLe.refl _) ?_
    conv => whnf
    refine Need.mk (OLe.refl _) ?_
    conv => whnf
    refine Need.mk (OLe.refl _) ?_
    conv => whnf
    refine Need.mk (OLe.refl _) ?_
    conv => whnf
    refine Need.mk (OLe.refl _) ?_
    conv => whnf
    refine Need.mk (OLe.refl _) ?_
    exact trivial
   ·rintro ⟨n2, ⟨games8, c57, c58⟩⟩ hl2
    obtain ⟨n2, rfl, hl2⟩ := loopN_some hl2
    replace hl2 : rateReadAverage_b1 N m1 ra4 rb4 (loopN (fun rr x => rateReadAverage_b1 N m1 ra4 rb4 rr x.1 x.2.1 x.2.2) n2) games8 c57 c58 = some (c36, c37) := hl2
    rw [rateReadAverage_b1] at hl2
    conv => whnf
    refine Br.mk (fun hc32 => ?_) (fun hc32 => ?_)
    ·replace hl2 := ite_t hc32 hl2
     obtain ⟨⟨besides13, c62⟩, hx97, hl2⟩ := obind hl2
     conv => whnf
     refine SeqG.mk Nat (fun y => [(0, .fn (.yield lp2) [] []), (2, .ptr 1405003 b68 0), (3, .d (.ref (.agg [I rb4]))), (6, .ptr 2006 y 0), (7, .d (.bool besides13)), (8, .d (I ra4)), (9, .d (I games8))]) (fun y => [(1405003, .cells b68 [.ptr 260019 bo1 0]), (2006, .cells y [.d (I c62.fNumber), .d (I c62.fBowler), .d (I c62.fWeek), .d (I c62.fGames.a0), .d (I c62.fGames.a1), .d (I c62.fGames.a2)]), (260019, .cells bo1 [.d (I c1), .d (I c2), .d (I c3), .d (I c4), .d (I c5), .d (.list 1 (List.map I c6)), .d (.list 6 (List.map RateSheet.enc c7)), .d (.list 1 (List.map I c8)), .mp 260017 bo2]), (270009, .cells b3 [.d (I c57)]), (270010, .cells b4 [.d (I c58)]), (1000, .loop lp2 rc2 none), (260017, .map bo2 (List.map (fun p => (.agg [I p.1.fBowler, I p.1.fWeek], .agg [I p.2.fNumber, I p.2.fBowler, I p.2.fWeek, I p.2.fGames.a0, I p.2.fGames.a1, I p.2.fGames.a2])) m1))]) (fun _ => True) ?_ ?_
     ·obtain ⟨⟨v24, is24⟩, hx98, hx97⟩ := obind hx97
      conv => whnf
      refine DrawG.mk (.take 0 (.take 1 (.take 2 (.take 3 (.take 4 (.take 5 (.alt 6 [3, 2, 1, 0] (.alt 7 [2, 1, 0] (.take 8 (.take 9 (.take 10 (.alt 11 [10, 9, 8, 2, 1, 0] (.alt 12 [10] (.take 13 .done) .nil) .nil)))) (.alt 11 [3, 2, 1, 0] (.alt 7 [2, 1, 0] (.take 8 (.take 9 (.take 10 (.alt 12 [10] (.take 13 .done) .nil)))) .nil) .nil)) (.alt 11 [5, 4, 3, 2, 1, 0] (.alt 6 [3, 2, 1, 0] (.alt 7 [2, 1, 0] (.take 8 (.take 9 (.take 10 (.alt 12 [10] (.take 13 .done) .nil)))) .nil) .nil) .nil)))))))) (by kernel_rfl) ?_
      conv => whnf
      refine Side.mk rfl ?_
      conv => whnf
      refine Side.mk rfl ?_
      conv => whnf
      refine Both.mk ?_ ?_
      ·conv => whnf
       refine Side.mk rfl ?_
       conv => whnf
       refine Need.mk (AV.le_refl _) ?_
       conv => whnf
       refine Need.mk (AV.le_refl _) ?_
       conv => whnf
       refine Need.mk (AV.le_refl _) ?_
       conv => whnf
       refine Side.mk rfl ?_
       conv => whnf
       refine Need.mk (AV.le_refl _) ?_
       conv => whnf
       refine Both.mk ?_ ?_
       ·conv => whnf
        refine Side.mk rfl (Need.mk rfl (Need.mk (fit_all (fun x : RateTurn => .agg [I x.fBowler, I x.fWeek]) (fun x : RateSheet => .agg [I x.fNumber, I x.fBowler, I x.fWeek, I x.fGames.a0, I x.fGames.a1, I x.fGames.a2]) fun _ => rfl) (LkG.mk (.agg [I v24.fNumber, I v24.fBowler, I v24.fWeek, I v24.fGames.a0, I v24.fGames.a1, I v24.fGames.a2]) is24 (mgt_v (eK := (fun x : RateTurn => .agg [I x.fBowler, I x.fWeek])) (eV := (fun x : RateSheet => .agg [I x.fNumber, I x.fBowler, I x.fWeek, I x.fGames.a0, I x.fGames.a1, I x.fGames.a2])) RateTurn.eqc hx98) (mgt_b (eK := (fun x : RateTurn => .agg [I x.fBowler, I x.fWeek])) (eV := (fun x : RateSheet => .agg [I x.fNumber, I x.fBowler, I x.fWeek, I x.fGames.a0, I x.fGames.a1, I x.fGames.a2])) RateTurn.eqc hx98) ?_)))
        conv => whnf
        refine Need.mk (AV.le_refl _) ?_
        conv => whnf
        refine Need.mk (AV.le_refl _) ?_
        conv => whnf
        refine Side.mk rfl ?_
        conv => whnf
        refine Need.mk (AV.le_refl _) ?_
        conv => whnf
        refine Both.mk ?_ trivial
        conv => whnf
        intro b124
        conv => whnf
        refine Need.mk (AV.le_refl _) ?_
        conv => whnf
        refine Need.mk (AV.le_refl _) ?_
        conv => whnf
        refine Need.mk (AV.le_refl _) ?_
        conv => whnf
        refine Need.mk (AV.le_refl _) ?_
        conv => whnf
        refine Need.mk (AV.le_refl _) ?_
        conv => whnf
        refine Side.mk rfl ?_
        conv => whnf
        refine Need.mk (AV.le_refl _) ?_
        conv => whnf
        refine Both.mk ?_ trivial
        conv => whnf
        refine Side.mk rfl ?_
        conv => whnf
        refine Need.mk (AV.le_refl _) ?_
        cases hx97
        conv => whnf
        refine ⟨b124, trivial, Sub.eq rfl ?_ ?_⟩
        ·repeat ((conv => whnf); refine Need.mk rfl ?_)
         exact trivial
        ·conv => whnf
         refine Need.mk (OLe.refl _) ?_
         conv => whnf
         refine Need.mk (OLe.refl _) ?_
         conv => whnf
         refine Need.mk (OLe.refl _) ?_
         conv => whnf
         refine Need.mk (OLe.refl _) ?_
         conv => whnf
         refine Need.mk (OLe.refl _) ?_
         conv => whnf
         refine Need.mk (OLe.refl _) ?_
         conv => whnf
         refine Need.mk (OLe.refl _) ?_
         exact trivial
       ·conv => whnf
        refine Both.mk ?_ trivial
        conv => whnf
        intro b125
        conv => whnf
        refine Side.mk rfl ?_
        conv => whnf
        refine Need.mk (AV.le_refl _) ?_
        conv => whnf
        refine Need.mk (AV.le_refl _) ?_
        conv => whnf
        refine Need.mk (AV.le_refl _) ?_
        conv => whnf
        refine Side.mk rfl ?_
        conv => whnf
        refine Need.mk (AV.le_refl _) ?_
        conv => whnf
        refine Both.mk ?_ trivial
        conv => whnf
        refine Side.mk rfl (Need.mk rfl (Need.mk (fit_all (fun x : RateTurn => .agg [I x.fBowler, I x.fWeek]) (fun x : RateSheet => .agg [I x.fNumber, I x.fBowler, I x.fWeek, I x.fGames.a0, I x.fGames.a1, I x.fGames.a2]) fun _ => rfl) (LkG.mk (.agg [I v24.fNumber, I v24.fBowler, I v24.fWeek, I v24.fGames.a0, I v24.fGames.a1, I v24.fGames.a2]) is24 (mgt_v (eK := (fun x : RateTurn => .agg [I x.fBowler, I x.fWeek])) (eV := (fun x : RateSheet => .agg [I x.fNumber, I x.fBowler, I x.fWeek, I x.fGames.a0, I x.fGames.a1, I x.fGames.a2])) RateTurn.eqc hx98) (mgt_b (eK := (fun x : RateTurn => .agg [I x.fBowler, I x.fWeek])) (eV := (fun x : RateSheet => .agg [I x.fNumber, I x.fBowler, I x.fWeek, I x.fGames.a0, I x.fGames.a1, I x.fGames.a2])) RateTurn.eqc hx98) ?_)))
        conv => whnf
        refine Need.mk (AV.le_refl _) ?_
        conv => whnf
        refine Need.mk (AV.le_refl _) ?_
        conv => whnf
        refine Side.mk rfl ?_
        conv => whnf
        refine Need.mk (AV.le_refl _) ?_
        conv => whnf
        refine Both.mk ?_ trivial
        conv => whnf
        refine Side.mk rfl ?_
        conv => whnf
        refine Need.mk (AV.le_refl _) ?_
        cases hx97
        conv => whnf
        refine ⟨b125, trivial, Sub.eq rfl ?_ ?_⟩
        ·repeat ((conv => whnf); refine Need.mk rfl ?_)
         exact trivial
        ·conv => whnf
         refine Need.mk (OLe.refl _) ?_
         conv => whnf
         refine Need.mk (OLe.refl _) ?_
         conv => whnf
         refine Need.mk (OLe.refl _) ?_
         conv => whnf
         refine Need.mk (OLe.refl _) ?_
         conv => whnf
         refine Need.mk (OLe.refl _) ?_
         conv => whnf
         refine Need.mk (OLe.refl _) ?_
         conv => whnf
         refine Need.mk (OLe.refl _) ?_
         exact trivial
      ·conv => whnf
       refine Both.mk ?_ trivial
       conv => whnf
       intro b126
       conv => whnf
       refine Need.mk (AV.le_refl _) ?_
       conv => whnf
       refine Need.mk (AV.le_refl _) ?_
       conv => whnf
       refine Side.mk rfl ?_
       conv => whnf
       refine Need.mk (AV.le_refl _) ?_
       conv => whnf
       refine Need.mk (AV.le_refl _) ?_
       conv => whnf
       refine Need.mk (AV.le_refl _) ?_
       conv => whnf
       refine Side.mk rfl ?_
       conv => whnf
       refine Need.mk (AV.le_refl _) ?_
       conv => whnf
       refine Both.mk ?_ trivial
       conv => whnf
       refine Side.mk rfl ?_
       conv => whnf
       refine Need.mk (AV.le_refl _) ?_
       conv => whnf
       refine Need.mk (AV.le_refl _) ?_
       conv => whnf
       refine Need.mk (AV.le_refl _) ?_
       conv => whnf
       refine Side.mk rfl ?_
       conv => whnf
       refine Need.mk (AV.le_refl _) ?_
       conv => whnf
       refine Both.mk ?_ trivial
       conv => whnf
       refine Side.mk rfl (Need.mk rfl (Need.mk (fit_all (fun x : RateTurn => .agg [I x.fBowler, I x.fWeek]) (fun x : RateSheet => .agg [I x.fNumber, I x.fBowler, I x.fWeek, I x.fGames.a0, I x.fGames.a1, I x.fGames.a2]) fun _ => rfl) (LkG.mk (.agg [I v24.fNumber, I v24.fBowler, I v24.fWeek, I v24.fGames.a0, I v24.fGames.a1, I v24.fGames.a2]) is24 (mgt_v (eK := (fun x : RateTurn => .agg [I x.fBowler, I x.fWeek])) (eV := (fun x : RateSheet => .agg [I x.fNumber, I x.fBowler, I x.fWeek, I x.fGames.a0, I x.fGames.a1, I x.fGames.a2])) RateTurn.eqc hx98) (mgt_b (eK := (fun x : RateTurn => .agg [I x.fBowler, I x.fWeek])) (eV := (fun x : RateSheet => .agg [I x.fNumber, I x.fBowler, I x.fWeek, I x.fGames.a0, I x.fGames.a1, I x.fGames.a2])) RateTurn.eqc hx98) ?_)))
       conv => whnf
       refine Need.mk (AV.le_refl _) ?_
       conv => whnf
       refine Need.mk (AV.le_refl _) ?_
       conv => whnf
       refine Side.mk rfl ?_
       conv => whnf
       refine Need.mk (AV.le_refl _) ?_
       conv => whnf
       refine Both.mk ?_ trivial
       conv => whnf
       refine Side.mk rfl ?_
       conv => whnf
       refine Need.mk (AV.le_refl _) ?_
       cases hx97
       conv => whnf
       refine ⟨b126, trivial, Sub.eq rfl ?_ ?_⟩
       ·repeat ((conv => whnf); refine Need.mk rfl ?_)
        exact trivial
       ·conv => whnf
        refine Need.mk (OLe.refl _) ?_
        conv => whnf
        refine Need.mk (OLe.refl _) ?_
        conv => whnf
        refine Need.mk (OLe.refl _) ?_
        conv => whnf
        refine Need.mk (OLe.refl _) ?_
        conv => whnf
        refine Need.mk (OLe.refl _) ?_
        conv => whnf
        refine Need.mk (OLe.refl _) ?_
        conv => whnf
        refine Need.mk (OLe.refl _) ?_
        exact trivial
     ·rintro bb12 _
      obtain ⟨⟨c63, c64⟩, hx101, hl2⟩ := obind hl2
      conv => whnf
      refine SeqG.mk Unit (fun y => [(0, .fn (.yield lp2) [] []), (2, .ptr 1405003 b68 0), (3, .d (.ref (.agg [I rb4]))), (8, .d (I ra4)), (9, .d (I games8)), (29, .b false)]) (fun y => [(1405003, .cells b68 [.ptr 260019 bo1 0]), (260019, .cells bo1 [.d (I c1), .d (I c2), .d (I c3), .d (I c4), .d (I c5), .d (.list 1 (List.map I c6)), .d (.list 6 (List.map RateSheet.enc c7)), .d (.list 1 (List.map I c8)), .mp 260017 bo2]), (270009, .cells b3 [.d (I c63)]), (270010, .cells b4 [.d (I c64)]), (1000, .loop lp2 rc2 none), (260017, .map bo2 (List.map (fun p => (.agg [I p.1.fBowler, I p.1.fWeek], .agg [I p.2.fNumber, I p.2.fBowler, I p.2.fWeek, I p.2.fGames.a0, I p.2.fGames.a1, I p.2.fGames.a2])) m1))]) (fun _ => True) ?_ ?_
      ·conv => whnf
       refine Br.mk (fun hc36 => ?_) (fun hc36 => ?_)
       ·replace hx101 := ite_t hc36 hx101
        conv => whnf
        refine Side.mk rfl ?_
        conv => whnf
        refine Side.mk ⟨rfl, rfl, rfl⟩ ?_
        conv => whnf
        intro b128
        conv => whnf
        refine Side.mk rfl ?_
        obtain ⟨r49, hx102, hx101⟩ := obind hx101
        obtain ⟨r50, hx103, hx101⟩ := obind hx101
        conv => whnf
        refine DrawG.mk (.take 0 (.take 1 (.take 2 (.take 3 (.alt 4 [2, 1, 0] (.alt 5 [2, 1, 0] (.alt 6 [1, 0] (.alt 7 [1, 0] (.alt 8 [] (.alt 9 [] .done .nil) .nil) .nil) .nil) .nil) .nil))))) (by kernel_rfl) ?_
        conv => whnf
        refine Side.mk rfl ?_
        conv => whnf
        refine Side.mk rfl ?_
        conv => whnf
        refine Both.mk ?_ trivial
        conv => whnf
        refine Side.mk rfl (ArrC.mk (List.map I [c62.fGames.a0, c62.fGames.a1, c62.fGames.a2]) rfl rfl (map_cells _ fun _ => rfl) ?_)
        conv => whnf
        refine Side.mk rfl ?_
        conv => whnf
        refine Need.mk (AV.le_refl _) ?_
        conv => whnf
        refine Need.mk (AV.le_refl _) ?_
        conv => whnf
        refine Side.mk rfl ?_
        conv => whnf
        refine Need.mk (AV.le_refl _) ?_
        conv => whnf
        refine Both.mk ?_ trivial
        conv => whnf
        refine CallG.pure _ (rateSumC hN hx102) ?_
        conv => whnf
        refine Side.mk rfl ?_
        conv => whnf
        refine Need.mk (AV.le_refl _) ?_
        conv => whnf
        refine Need.mk (AV.le_refl _) ?_
        conv => whnf
        refine Side.mk rfl ?_
        conv => whnf
        refine Need.mk (AV.le_refl _) ?_
        conv => whnf
        refine Both.mk ?_ trivial
        conv => whnf
        intro hd48
        conv => whnf
        refine Need.mk (AV.le_refl _) ?_
        conv => whnf
        refine Side.mk rfl ?_
        conv => whnf
        refine Need.mk (AV.le_refl _) ?_
        conv => whnf
        refine Both.mk ?_ trivial
        conv => whnf
        refine Side.mk rfl ?_
        conv => whnf
        refine CallG.pure _ (rateSumC hN hx103) ?_
        conv => whnf
        refine Need.mk (AV.le_refl _) ?_
        conv => whnf
        refine Side.mk rfl ?_
        conv => whnf
        refine Need.mk (AV.le_refl _) ?_
        conv => whnf
        refine Both.mk ?_ trivial
        conv => whnf
        refine Side.mk rfl ?_
        conv => whnf
        refine Both.mk ?_ trivial
        conv => whnf
        refine Side.mk rfl ?_
        cases hx101
        conv => whnf
        refine ⟨(), trivial, Sub.eq rfl ?_ ?_⟩
        ·repeat ((conv => whnf); refine Need.mk rfl ?_)
         exact trivial
        ·conv => whnf
         refine Need.mk (OLe.refl _) ?_
         conv => whnf
         refine Need.mk (OLe.refl _) ?_
         conv => whnf
         refine Need.mk (OLe.refl _) ?_
         conv => whnf
         refine Need.mk (OLe.refl _) ?_
         conv => whnf
         refine Need.mk (OLe.refl _) ?_
         conv => whnf
         refine Need.mk (OLe.refl _) ?_
         exact trivial
       ·replace hx101 := ite_f hc36 hx101
        cases hx101
        conv => whnf
        refine ⟨(), trivial, Sub.eq rfl ?_ ?_⟩
        ·repeat ((conv => whnf); refine Need.mk rfl ?_)
         exact trivial
        ·conv => whnf
         refine Need.mk (OLe.refl _) ?_
         conv => whnf
         refine Need.mk (OLe.refl _) ?_
         conv => whnf
         refine Need.mk (OLe.refl _) ?_
         conv => whnf
         refine Need.mk (OLe.refl _) ?_
         conv => whnf
         refine Need.mk (OLe.refl _) ?_
         conv => whnf
         refine Need.mk (OLe.refl _) ?_
         exact trivial
      ·rintro _ _
       conv => whnf
       refine ⟨(n2, (w64 (games8 + 1), c63, c64)), hl2, Sub.eq rfl ?_ ?_, Nat.lt_succ_self _⟩
       ·repeat ((conv => whnf); refine Need.mk rfl ?_)
        exact trivial
       ·conv => whnf
        refine Need.mk (OLe.refl _) ?_
        conv => whnf
        refine Need.mk (OLe.refl _) ?_
        conv => whnf
        refine Need.mk (OLe.refl _) ?_
        conv => whnf
        refine Need.mk (OLe.refl _) ?_
        conv => whnf
        refine Need.mk (OLe.refl _) ?_
        conv => whnf
        refine Need.mk (OLe.refl _) ?_
        exact trivial
    ·replace hl2 := ite_f hc32 hl2
     conv => whnf
     refine Side.mk ⟨rfl, rfl⟩ ?_
     cases hl2
     conv => whnf
     refine ⟨(), trivial, Sub.eq rfl ?_ ?_⟩
     ·repeat ((conv => whnf); refine Need.mk rfl ?_)
      exact trivial
     ·conv => whnf
      refine Need.mk (OLe.refl _) ?_
      conv => whnf
      refine Need.mk (OLe.refl _) ?_
      conv => whnf
      refine Need.mk (OLe.refl _) ?_
      conv => whnf
      refine Need.mk (OLe.refl _) ?_
      exact trivial
  ·rintro _ _
   conv => whnf
   refine DrawG.mk (.take 0 (.take 1 (.take 2 (.take 3 (.take 4 (.take 5 (.take 6 (.take 7 .done)))))))) (by kernel_rfl) ?_
   conv => whnf
   refine Side.mk rfl ?_
   conv => whnf
   refine Side.mk rfl ?_
   conv => whnf
   refine Br.mk (fun hc38 => ?_) (fun hc38 => ?_)
   ·replace h := ite_t hc38 h
    conv => whnf
    refine Side.mk rfl ?_
    obtain ⟨x4, hx107, h⟩ := obind h
    conv => whnf
    refine Side.mk rfl ⟨_, idx_0 hx107, idx_map _ hx107, ?_⟩
    conv => whnf
    cases h
    exact ⟨(), trivial, rfl, inO_at (ren := id) (And.intro rfl (And.intro rfl trivial))⟩
   ·replace h := ite_f hc38 h
    conv => whnf
    refine Side.mk rfl ?_
    conv => whnf
    refine Side.mk rfl ?_
    obtain ⟨_, hx109, h⟩ := obind h
    conv => whnf
    refine Need.mk (nz_ne hx109) ?_
    conv => whnf
    cases h
    exact ⟨(), trivial, rfl, inO_at (ren := id) (And.intro rfl (And.intro rfl trivial))⟩

theorem rateAverageC {N : Nat} (hN : N ≤ 1073741824) {b1 : RateBook} {bowler1 : Int} {week1 : Int} {r : Int × Int} (h : rateAverage N b1 bowler1 week1 = some r) :
    ACalls Try.prog 25 [.d (.agg [I b1.fLaw.fBase, I b1.fLaw.fPercent, I b1.fLaw.fCap, I b1.fLaw.fLeast, I b1.fLaw.fBlind, .list 1 (List.map I b1.fBowlers), .list 6 (List.map RateSheet.enc b1.fSheets), .list 1 (List.map I b1.fWithdrawn)]), .d (I bowler1), .d (I week1)] [] fun e os => e = .ret (.d (.tup [I r.1, I r.2])) ∧ os = [] := by
  refine acalls_f (fresh := false) tt_ok dr_ok ⟨[3], [], [], [], [], 0, []⟩ Try.func25 rfl Try.call25 rfl ?_
  unfold rateAverage at h
  obtain ⟨z2, hx2, h⟩ := obind h
  rcases z2 with r2 | ⟨ra2, rb2, rc2, rd2, re2, rf2, rg2, rh2, ri2, rj2⟩
  ·conv => whnf
   refine CallG.own (rateBookAskedC hN hx2) id [] _ (fun y => []) (all2_le_refl _) trivial rfl trivial trivial (fun _ => AV.le_refl _) (fun _ => rfl) ?_
   rintro _ _
   conv => whnf
   refine Br.mk (fun hc2 => ?_) (fun hc2 => ?_)
   ·replace h := ite_t hc2 h
    conv => whnf
    cases h
    exact rfl
   ·replace h := ite_f hc2 h
    cases h
  ·conv => whnf
   refine CallG.own (rateBookAskedC hN hx2) id [] _ (fun y => [(260019, .cells y.1 [.d (I rb2), .d (I rc2), .d (I rd2), .d (I re2), .d (I rf2), .d (.list 1 (List.map I rg2)), .d (.list 6 (List.map RateSheet.enc rh2)), .d (.list 1 (List.map I ri2)), .mp 260017 y.2]), (260017, .map y.2 (List.map (fun p => (.agg [I p.1.fBowler, I p.1.fWeek], .agg [I p.2.fNumber, I p.2.fBowler, I p.2.fWeek, I p.2.fGames.a0, I p.2.fGames.a1, I p.2.fGames.a2])) rj2))]) (all2_le_refl _) trivial rfl trivial trivial (fun _ => AV.le_refl _) (fun _ => rfl) ?_
   rintro ⟨b4, b5⟩ _
   conv => whnf
   refine Br.mk (fun hc4 => ?_) (fun hc4 => ?_)
   ·replace h := ite_t hc4 h
    conv => whnf
    cases h
    exact rfl
   ·replace h := ite_f hc4 h
    obtain ⟨r4, hx4, h⟩ := obind h
    conv => whnf
    refine CallG.own (rateReadAverageC (bo1 := b4) (bo2 := b5) hN hx4) id [] _ (fun y => [(260019, .cells b4 [.d (I rb2), .d (I rc2), .d (I rd2), .d (I re2), .d (I rf2), .d (.list 1 (List.map I rg2)), .d (.list 6 (List.map RateSheet.enc rh2)), .d (.list 1 (List.map I ri2)), .mp 260017 b5]), (260017, .map b5 (List.map (fun p => (.agg [I p.1.fBowler, I p.1.fWeek], .agg [I p.2.fNumber, I p.2.fBowler, I p.2.fWeek, I p.2.fGames.a0, I p.2.fGames.a1, I p.2.fGames.a2])) rj2))]) (all2_le_refl _) (And.intro rfl (And.intro rfl trivial)) rfl (And.intro rfl (And.intro rfl trivial)) trivial (fun _ => AV.le_refl _) (fun _ => rfl) ?_
    rintro _ _
    conv => whnf
    cases h
    exact rfl

theorem rateReadHandicapC {N : Nat} (hN : N ≤ 1073741824) {bowler1 : Int} {before1 : Int} {c1 : Int} {c2 : Int} {c3 : Int} {c4 : Int} {c5 : Int} {c6 : List Int} {c7 : List RateSheet} {c8 : List Int} {m1 : List (RateTurn × RateSheet)} {bo1 : Nat} {bo2 : Nat} {r : Int} (h : rateReadHandicap N bowler1 before1 c1 c2 c3 c4 c5 c6 c7 c8 m1 = some r) :
    ACalls Try.prog 56 [.ptr 260019 bo1 0, .d (I bowler1), .d (I before1)] [(260019, .cells bo1 [.d (I c1), .d (I c2), .d (I c3), .d (I c4), .d (I c5), .d (.list 1 (List.map I c6)), .d (.list 6 (List.map RateSheet.enc c7)), .d (.list 1 (List.map I c8)), .mp 260017 bo2]), (260017, .map bo2 (List.map (fun p => (.agg [I p.1.fBowler, I p.1.fWeek], .agg [I p.2.fNumber, I p.2.fBowler, I p.2.fWeek, I p.2.fGames.a0, I p.2.fGames.a1, I p.2.fGames.a2])) m1))] fun ae os => ∃ y : Unit, True ∧ ae = .ret (.d (I r)) ∧ os = [(260019, .cells bo1 [.d (I c1), .d (I c2), .d (I c3), .d (I c4), .d (I c5), .d (.list 1 (List.map I c6)), .d (.list 6 (List.map RateSheet.enc c7)), .d (.list 1 (List.map I c8)), .mp 260017 bo2]), (260017, .map bo2 (List.map (fun p => (.agg [I p.1.fBowler, I p.1.fWeek], .agg [I p.2.fNumber, I p.2.fBowler, I p.2.fWeek, I p.2.fGames.a0, I p.2.fGames.a1, I p.2.fGames.a2])) m1))] := by
  refine acalls_own (fresh := false) tt_ok dr_ok ⟨[], [], [], [], [], 270000, []⟩ Try.func56 rfl Try.call56 rfl ?_
  unfold rateReadHandicap at h
  obtain ⟨r2, hx2, h⟩ := obind h
  conv => whnf
  refine DrawG.mk (.take 0 (.take 1 (.take 2 (.take 3 (.take 4 (.take 5 (.take 6 (.take 7 (.take 8 (.take 11 (.take 12 (.take 13 (.take 14 (.take 15 (.take 16 (.alt 9 [16, 15, 14, 13, 12, 11, 5, 4, 3, 2, 1, 0] (.take 10 (.take 17 (.take 18 (.take 19 .done)))) .nil)))))))))))))))) (by kernel_rfl) ?_
  conv => whnf
  refine Side.mk rfl ?_
  conv => whnf
  refine Side.mk rfl ?_
  conv => whnf
  refine Both.mk ?_ trivial
  conv => whnf
  refine CallG.own (rateReadAverageC (bo1 := bo1) (bo2 := bo2) hN hx2) id [] _ (fun y => [(260019, .cells bo1 [.d (I c1), .d (I c2), .d (I c3), .d (I c4), .d (I c5), .d (.list 1 (List.map I c6)), .d (.list 6 (List.map RateSheet.enc c7)), .d (.list 1 (List.map I c8)), .mp 260017 bo2]), (260017, .map bo2 (List.map (fun p => (.agg [I p.1.fBowler, I p.1.fWeek], .agg [I p.2.fNumber, I p.2.fBowler, I p.2.fWeek, I p.2.fGames.a0, I p.2.fGames.a1, I p.2.fGames.a2])) m1))]) (all2_le_refl _) (And.intro rfl (And.intro rfl trivial)) rfl (And.intro rfl (And.intro rfl trivial)) trivial (fun _ => AV.le_refl _) (fun _ => rfl) ?_
  rintro _ _
  conv => whnf
  refine Side.mk rfl ?_
  conv => whnf
  refine Need.mk (AV.le_refl _) ?_
  conv => whnf
  refine Need.mk (AV.le_refl _) ?_
  conv => whnf
  refine Need.mk (AV.le_refl _) ?_
  conv => whnf
  refine Need.mk (AV.le_refl _) ?_
  conv => whnf
  refine Need.mk (AV.le_refl _) ?_
  conv => whnf
  refine Need.mk (AV.le_refl _) ?_
  conv => whnf
  refine Side.mk rfl ?_
  conv => whnf
  refine Need.mk (AV.le_refl _) ?_
  conv => whnf
  refine Need.mk (AV.le_refl _) ?_
  conv => whnf
  refine Need.mk (AV.le_refl _) ?_
  conv => whnf
  refine Need.mk (AV.le_refl _) ?_
  conv => whnf
  refine Need.mk (AV.le_refl _) ?_
  conv => whnf
  refine Need.mk (AV.le_refl _) ?_
  conv => whnf
  refine Need.mk (by decide) ?_
  conv => whnf
  refine Side.mk rfl ?_
  conv => whnf
  cases h
  exact ⟨(), trivial, rfl, inO_at (ren := id) (And.intro rfl (And.intro rfl trivial))⟩

theorem rateHandicapC {N : Nat} (hN : N ≤ 1073741824) {b1 : RateBook} {bowler1 : Int} {week1 : Int} {r : Int × Int} (h : rateHandicap N b1 bowler1 week1 = some r) :
    ACalls Try.prog 28 [.d (.agg [I b1.fLaw.fBase, I b1.fLaw.fPercent, I b1.fLaw.fCap, I b1.fLaw.fLeast, I b1.fLaw.fBlind, .list 1 (List.map I b1.fBowlers), .list 6 (List.map RateSheet.enc b1.fSheets), .list 1 (List.map I b1.fWithdrawn)]), .d (I bowler1), .d (I week1)] [] fun e os => e = .ret (.d (.tup [I r.1, I r.2])) ∧ os = [] := by
  refine acalls_f (fresh := false) tt_ok dr_ok ⟨[3], [], [], [], [], 0, []⟩ Try.func28 rfl Try.call28 rfl ?_
  unfold rateHandicap at h
  obtain ⟨z2, hx2, h⟩ := obind h
  rcases z2 with r2 | ⟨ra2, rb2, rc2, rd2, re2, rf2, rg2, rh2, ri2, rj2⟩
  ·conv => whnf
   refine CallG.own (rateBookAskedC hN hx2) id [] _ (fun y => []) (all2_le_refl _) trivial rfl trivial trivial (fun _ => AV.le_refl _) (fun _ => rfl) ?_
   rintro _ _
   conv => whnf
   refine Br.mk (fun hc2 => ?_) (fun hc2 => ?_)
   ·replace h := ite_t hc2 h
    conv => whnf
    cases h
    exact rfl
   ·replace h := ite_f hc2 h
    cases h
  ·conv => whnf
   refine CallG.own (rateBookAskedC hN hx2) id [] _ (fun y => [(260019, .cells y.1 [.d (I rb2), .d (I rc2), .d (I rd2), .d (I re2), .d (I rf2), .d (.list 1 (List.map I rg2)), .d (.list 6 (List.map RateSheet.enc rh2)), .d (.list 1 (List.map I ri2)), .mp 260017 y.2]), (260017, .map y.2 (List.map (fun p => (.agg [I p.1.fBowler, I p.1.fWeek], .agg [I p.2.fNumber, I p.2.fBowler, I p.2.fWeek, I p.2.fGames.a0, I p.2.fGames.a1, I p.2.fGames.a2])) rj2))]) (all2_le_refl _) trivial rfl trivial trivial (fun _ => AV.le_refl _) (fun _ => rfl) ?_
   rintro ⟨b4, b5⟩ _
   conv => whnf
   refine Br.mk (fun hc4 => ?_) (fun hc4 => ?_)
   ·replace h := ite_t hc4 h
    conv => whnf
    cases h
    exact rfl
   ·replace h := ite_f hc4 h
    obtain ⟨r4, hx4, h⟩ := obind h
    conv => whnf
    refine CallG.own (rateReadHandicapC (bo1 := b4) (bo2 := b5) hN hx4) id [] _ (fun y => [(260019, .cells b4 [.d (I rb2), .d (I rc2), .d (I rd2), .d (I re2), .d (I rf2), .d (.list 1 (List.map I rg2)), .d (.list 6 (List.map RateSheet.enc rh2)), .d (.list 1 (List.map I ri2)), .mp 260017 b5]), (260017, .map b5 (List.map (fun p => (.agg [I p.1.fBowler, I p.1.fWeek], .agg [I p.2.fNumber, I p.2.fBowler, I p.2.fWeek, I p.2.fGames.a0, I p.2.fGames.a1, I p.2.fGames.a2])) rj2))]) (all2_le_refl _) (And.intro rfl (And.intro rfl trivial)) rfl (And.intro rfl (And.intro rfl trivial)) trivial (fun _ => AV.le_refl _) (fun _ => rfl) ?_
    rintro _ _
    conv => whnf
    cases h
    exact rfl

theorem slicesGrowC {N : Nat} (hN : N ≤ 1073741824) {n1 : Int} {r : (List Int)} (h : slicesGrow N n1 = some r) :
    ACalls Try.prog 99 [.nils 1, .d (I n1)] [] fun e os => ∃ hd, e = .ret (.sl 0 hd) ∧ os = [(0, .arr hd 3 1 false (List.map I r))] := by
  refine acalls_fr tt_ok dr_ok ⟨[], [], [], [25], [1003], 0, []⟩ Try.func99 rfl Try.call99 rfl ?_
  unfold slicesGrow at h
  conv => whnf
  refine Br.mk (fun hc2 => ?_) (fun hc2 => ?_)
  ·replace h := ite_t hc2 h
   cases h
  ·replace h := ite_f hc2 h
   obtain ⟨l3, hx3, h⟩ := obind h
   conv => whnf
   refine SeqG.mk Value (fun y => [(0, .sl 22 y)]) (fun y => [(22, .arr y 3 1 false (List.map I l3))]) (fun _ => True) ?_ ?_
   ·conv => whnf
    refine Br.mk (fun hc4 => ?_) (fun hc4 => ?_)
    ·replace hx3 := ite_t hc4 hx3
     conv => whnf
     refine Need.mk (by decide) ?_
     obtain ⟨l4, hx4, hx3⟩ := obind hx3
     conv => whnf
     refine Need.mk (mklp_need hN hx4 (by decide)) (Eqv.mk (List.map I l4) (mklp_map _ hx4 rfl) ?_)
     conv => whnf
     intro hd4
     obtain ⟨l5, hx5, hx3⟩ := obind hx3
     conv => whnf
     refine Side.mk rfl (Need.mk (slc_need0 _ hx5) (Eqv.mk (List.map I l5) (slc_map0 _ hx5) ?_))
     conv => whnf
     intro hd5
     cases hx3
     conv => whnf
     refine ⟨hd5, trivial, Sub.eq rfl ?_ ?_⟩
     ·repeat ((conv => whnf); refine Need.mk rfl ?_)
      exact trivial
     ·conv => whnf
      refine Need.mk (OLe.refl _) ?_
      exact trivial
    ·replace hx3 := ite_f hc4 hx3
     cases hx3
     conv => whnf
     refine ⟨(.slice none 0 0), trivial, Sub.eq rfl ?_ ?_⟩
     ·repeat ((conv => whnf); refine Need.mk rfl ?_)
      exact trivial
     ·conv => whnf
      refine Need.mk (OLe.nil _ _ _ _) ?_
      exact trivial
   ·rintro hd3 _
    conv => whnf
    cases h
    exact ⟨_, _, rfl, rfl⟩

theorem slicesConcatC {N : Nat} (hN : N ≤ 1073741824) {slices1 : List (List Int)} {r : (List Int)} (h : slicesConcat N slices1 = some r) :
    ACalls Try.prog 81 [.d (.list 1 (List.map (fun x => .list 1 (List.map I x)) slices1))] [] fun e os => ∃ hd, e = .ret (.sl 0 hd) ∧ os = [(0, .arr hd 3 1 false (List.map I r))] := by
  refine acalls_fr tt_ok dr_ok ⟨[], [], [24], [], [1002, 1010], 0, []⟩ Try.func81 rfl Try.call81 rfl ?_
  unfold slicesConcat at h
  obtain ⟨size5, hx13, h⟩ := obind h
  conv => whnf
  refine SeqG.mk Unit (fun y => [(0, .d (.list 1 (List.map (fun x => .list 1 (List.map I x)) slices1))), (3, .d (I size5))]) (fun y => []) (fun _ => True) ?_ ?_
  ·conv => whnf
   refine LnA.mk _ (List.length_map _) ?_
   conv => whnf
   refine LoopG.mk (Nat × (Int × Int × Int)) (fun y => [(0, .d (.list 1 (List.map (fun x => .list 1 (List.map I x)) slices1))), (3, .d (I y.2.1)), (9, .d (.list 1 (List.map (fun x => .list 1 (List.map I x)) slices1))), (10, .d (I y.2.2.1)), (11, .d (I y.2.2.2))]) (fun y => []) (fun y => loopN (fun rr x => slicesConcat_b1 N slices1 rr x.1 x.2.1 x.2.2) y.1 y.2 = some size5) (fun y => y.1) (N, (0, (slices1.length : Int), 0)) hx13 (Sub.eq rfl ?_ ?_) ?_
   ·repeat ((conv => whnf); refine Need.mk rfl ?_)
    exact trivial
   ·exact trivial
   ·rintro ⟨n2, ⟨size9, v17, v18⟩⟩ hl2
    obtain ⟨n2, rfl, hl2⟩ := loopN_some hl2
    replace hl2 : slicesConcat_b1 N slices1 (loopN (fun rr x => slicesConcat_b1 N slices1 rr x.1 x.2.1 x.2.2) n2) size9 v17 v18 = some size5 := hl2
    rw [slicesConcat_b1] at hl2
    conv => whnf
    refine Br.mk (fun hc22 => ?_) (fun hc22 => ?_)
    ·replace hl2 := ite_t hc22 hl2
     obtain ⟨x24, hx25, hl2⟩ := obind hl2
     conv => whnf
     refine Side.mk rfl ⟨_, idx_0 hx25, idx_map _ hx25, ?_⟩
     conv => whnf
     refine LnA.mk _ (List.length_map _) ?_
     conv => whnf
     refine Br.mk (fun hc24 => ?_) (fun hc24 => ?_)
     ·replace hl2 := ite_t hc24 hl2
      cases hl2
     ·replace hl2 := ite_f hc24 hl2
      conv => whnf
      refine ⟨(n2, (w64 (size9 + (x24.length : Int)), v17, w64 (v18 + 1))), hl2, Sub.eq rfl ?_ ?_, Nat.lt_succ_self _⟩
      ·repeat ((conv => whnf); refine Need.mk rfl ?_)
       exact trivial
      ·exact trivial
    ·replace hl2 := ite_f hc22 hl2
     cases hl2
     conv => whnf
     refine ⟨(), trivial, Sub.eq rfl ?_ ?_⟩
     ·repeat ((conv => whnf); refine Need.mk rfl ?_)
      exact trivial
     ·exact trivial
  ·rintro _ _
   obtain ⟨r2, hx27, h⟩ := obind h
   conv => whnf
   refine CallG.fresh 24 (slicesGrowC hN hx27) ?_
   intro hd2
   obtain ⟨l11, hx46, h⟩ := obind h
   conv => whnf
   refine SeqG.mk Value (fun y => [(6, .sl 24 y)]) (fun y => [(24, .arr y 3 1 false (List.map I l11))]) (fun _ => True) ?_ ?_
   ·conv => whnf
    refine LnA.mk _ (List.length_map _) ?_
    conv => whnf
    refine LoopG.mk (Nat × (Int × Int × (List Int)) × Value) (fun y => [(6, .sl 24 y.2.2), (25, .d (.list 1 (List.map (fun x => .list 1 (List.map I x)) slices1))), (26, .d (I y.2.1.1)), (27, .d (I y.2.1.2.1))]) (fun y => [(24, .arr y.2.2 3 1 false (List.map I y.2.1.2.2))]) (fun y => loopN (fun rr x => slicesConcat_b2 N slices1 rr x.1 x.2.1 x.2.2) y.1 y.2.1 = some l11) (fun y => y.1) (N, ((slices1.length : Int), 0, r2), hd2) hx46 (Sub.eq rfl ?_ ?_) ?_
    ·repeat ((conv => whnf); refine Need.mk rfl ?_)
     exact trivial
    ·conv => whnf
     refine Need.mk (OLe.refl _) ?_
     exact trivial
    ·rintro ⟨n4, ⟨v35, v36, l19⟩, hd21⟩ hl4
     obtain ⟨n4, rfl, hl4⟩ := loopN_some hl4
     replace hl4 : slicesConcat_b2 N slices1 (loopN (fun rr x => slicesConcat_b2 N slices1 rr x.1 x.2.1 x.2.2) n4) v35 v36 l19 = some l11 := hl4
     rw [slicesConcat_b2] at hl4
     conv => whnf
     refine Br.mk (fun hc36 => ?_) (fun hc36 => ?_)
     ·replace hl4 := ite_t hc36 hl4
      obtain ⟨x48, hx63, hl4⟩ := obind hl4
      conv => whnf
      refine Side.mk rfl ⟨_, idx_0 hx63, idx_map _ hx63, ?_⟩
      obtain ⟨l21, hx64, hl4⟩ := obind hl4
      conv => whnf
      refine Side.mk rfl ?_
      conv => whnf
      refine Side.mk ⟨rfl, rfl, rfl⟩ (Need.mk (app_need hN hx64 (by decide)) (Eqv.mk (List.map I l21) (app_map _ hx64) ?_))
      conv => whnf
      intro hd23
      conv => whnf
      refine ⟨(n4, (v35, w64 (v36 + 1), l21), hd23), hl4, Sub.eq rfl ?_ ?_, Nat.lt_succ_self _⟩
      ·repeat ((conv => whnf); refine Need.mk rfl ?_)
       exact trivial
      ·conv => whnf
       refine Need.mk (OLe.refl _) ?_
       exact trivial
     ·replace hl4 := ite_f hc36 hl4
      cases hl4
      conv => whnf
      refine ⟨hd21, trivial, Sub.eq rfl ?_ ?_⟩
      ·repeat ((conv => whnf); refine Need.mk rfl ?_)
       exact trivial
      ·conv => whnf
       refine Need.mk (OLe.refl _) ?_
       exact trivial
   ·rintro hd13 _
    conv => whnf
    cases h
    exact ⟨_, _, rfl, rfl⟩

theorem rateAll1XXXC {N : Nat} (hN : N ≤ 1073741824) {x1 : Int} {a1 : RateBook} {r : Bool} (h : rateAll1XXX N x1 a1 = some r) :
    ACalls Try.prog 72 [.d (I x1), .d (.ref (.agg [.fn (.func 75) [.agg [I a1.fLaw.fBase, I a1.fLaw.fPercent, I a1.fLaw.fCap, I a1.fLaw.fLeast, I a1.fLaw.fBlind, .list 1 (List.map I a1.fBowlers), .list 6 (List.map RateSheet.enc a1.fSheets), .list 1 (List.map I a1.fWithdrawn)]] []]))] [] fun e os => e = .ret (.d (.bool r)) ∧ os = [] := by
  refine acalls_f (fresh := false) tt_ok dr_ok ⟨[], [], [], [], [], 0, []⟩ Try.func72 rfl Try.call72 rfl ?_
  unfold rateAll1XXX at h
  obtain ⟨r2, hx2, h⟩ := obind h
  conv => whnf
  refine CallG.pure _ (rateBookBowlerC hN hx2) ?_
  conv => whnf
  cases h
  exact rfl

theorem slicesIndexFuncXXXC {N : Nat} (hN : N ≤ 1073741824) {f1 : RateBook} {l1 : List Int} {ho1 : Value} {r : Int} (h : slicesIndexFuncXXX N f1 l1 = some r) :
    ACalls Try.prog 84 [.sl 20 ho1, .d (.fn (.func 72) [] [.ref (.agg [.fn (.func 75) [.agg [I f1.fLaw.fBase, I f1.fLaw.fPercent, I f1.fLaw.fCap, I f1.fLaw.fLeast, I f1.fLaw.fBlind, .list 1 (List.map I f1.fBowlers), .list 6 (List.map RateSheet.enc f1.fSheets), .list 1 (List.map I f1.fWithdrawn)]] []])])] [(20, .arr ho1 3 1 false (List.map I l1))] fun ae os => ∃ y : Unit, True ∧ ae = .ret (.d (I r)) ∧ os = [(20, .arr ho1 3 1 false (List.map I l1))] := by
  refine acalls_own (fresh := false) tt_ok dr_ok ⟨[], [], [], [], [1001], 10000, []⟩ Try.func84 rfl Try.call84 rfl ?_
  unfold slicesIndexFuncXXX at h
  conv => whnf
  refine SeqG.mk Unit (fun y => []) (fun y => [(20, .arr ho1 3 1 false (List.map I l1))]) (fun y => slicesIndexFuncXXX_k1 N = some r) ?_ ?_
  ·conv => whnf
   refine Side.mk rfl (LnA.mk _ (List.length_map _) ?_)
   conv => whnf
   refine LoopG.mk (Nat × (Int × Int)) (fun y => [(0, .sl 20 ho1), (1, .d (.fn (.func 72) [] [.ref (.agg [.fn (.func 75) [.agg [I f1.fLaw.fBase, I f1.fLaw.fPercent, I f1.fLaw.fCap, I f1.fLaw.fLeast, I f1.fLaw.fBlind, .list 1 (List.map I f1.fBowlers), .list 6 (List.map RateSheet.enc f1.fSheets), .list 1 (List.map I f1.fWithdrawn)]] []])])), (7, .d (I y.2.1)), (8, .d (I y.2.2))]) (fun y => [(20, .arr ho1 3 1 false (List.map I l1))]) (fun y => loopN (fun rr x => slicesIndexFuncXXX_b2 N f1 l1 rr x.1 x.2) y.1 y.2 = some r) (fun y => y.1) (N, ((l1.length : Int), 0)) h (Sub.eq rfl ?_ ?_) ?_
   ·repeat ((conv => whnf); refine Need.mk rfl ?_)
    exact trivial
   ·conv => whnf
    refine Need.mk (OLe.refl _) ?_
    exact trivial
   ·rintro ⟨n2, ⟨v17, v18⟩⟩ hl2
    obtain ⟨n2, rfl, hl2⟩ := loopN_some hl2
    replace hl2 : slicesIndexFuncXXX_b2 N f1 l1 (loopN (fun rr x => slicesIndexFuncXXX_b2 N f1 l1 rr x.1 x.2) n2) v17 v18 = some r := hl2
    rw [slicesIndexFuncXXX_b2] at hl2
    conv => whnf
    refine Br.mk (fun hc22 => ?_) (fun hc22 => ?_)
    ·replace hl2 := ite_t hc22 hl2
     obtain ⟨x24, hx47, hl2⟩ := obind hl2
     conv => whnf
     refine Side.mk ⟨rfl, rfl⟩ (Need.mk (idx_need _ hx47) ?_)
     conv => whnf
     refine Side.mk ⟨rfl, rfl⟩ ⟨_, Int.natCast_nonneg _, idx_el _ hx47, ?_⟩
     obtain ⟨r24, hx48, hl2⟩ := obind hl2
     conv => whnf
     refine CallG.pure _ (rateAll1XXXC hN hx48) ?_
     conv => whnf
     refine Br.mk (fun hc24 => ?_) (fun hc24 => ?_)
     ·replace hl2 := ite_t hc24 hl2
      conv => whnf
      cases hl2
      exact ⟨(), trivial, rfl, inO_at (ren := id) (And.intro rfl trivial)⟩
     ·replace hl2 := ite_f hc24 hl2
      conv => whnf
      refine ⟨(n2, (v17, w64 (v18 + 1))), hl2, Sub.eq rfl ?_ ?_, Nat.lt_succ_self _⟩
      ·repeat ((conv => whnf); refine Need.mk rfl ?_)
       exact trivial
      ·conv => whnf
       refine Need.mk (OLe.refl _) ?_
       exact trivial
    ·replace hl2 := ite_f hc22 hl2
     conv => whnf
     refine ⟨(), hl2, Sub.eq rfl ?_ ?_⟩
     ·repeat ((conv => whnf); refine Need.mk rfl ?_)
      exact trivial
     ·conv => whnf
      refine Need.mk (OLe.refl _) ?_
      exact trivial
  ·clear h
   rintro _ h
   unfold slicesIndexFuncXXX_k1 at h
   conv => whnf
   cases h
   exact ⟨(), trivial, rfl, inO_at (ren := id) (And.intro rfl trivial)⟩
end Go.Proofs.Ytmencjafjcmbaaa
