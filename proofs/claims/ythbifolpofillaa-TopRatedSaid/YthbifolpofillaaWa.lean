/-
  Walks: what the typed functions compute, the program’s functions return.
-/
import Derived.Test.YthbifolpofillaaWe
namespace Go.Proofs.Ythbifolpofillaa
open Go Go.Abs Go.Kp
set_option maxRecDepth 100000
set_option maxHeartbeats 8000000
set_option linter.all false

theorem ref01InC {N : Nat} (hN : N ≤ 1073741824) {n1 : Int} {low1 : Int} {high1 : Int} {r : Bool} (h : ref01In N n1 low1 high1 = some r) :
    ACalls Try.prog 14 [.d (I n1), .d (I low1), .d (I high1)] [] fun e os => e = .ret (.d (.bool r)) ∧ os = [] := by
  refine acalls_f (fresh := false) tt_ok dr_ok ⟨[], [], [], [], [1], 0⟩ Try.func14 rfl Try.call14 rfl ?_
  unfold ref01In at h
  obtain ⟨v1, hx1, h⟩ := obind h
  conv => whnf
  refine SeqG.mk Unit (fun y => [(6, .d (.bool v1))]) (fun y => []) (fun _ => True) ?_ ?_
  · conv => whnf
    refine Br.mk (fun hc2 => ?_) (fun hc2 => ?_)
    · replace hx1 := ite_t hc2 hx1
      cases hx1
      conv => whnf
      refine ⟨(), trivial, Sub.eq rfl ?_ ?_⟩
      · repeat ((conv => whnf); refine Need.mk rfl ?_)
        exact trivial
      · exact trivial
    · replace hx1 := ite_f hc2 hx1
      cases hx1
      conv => whnf
      refine ⟨(), trivial, Sub.eq rfl ?_ ?_⟩
      · repeat ((conv => whnf); refine Need.mk rfl ?_)
        exact trivial
      · exact trivial
  · rintro _ _
    conv => whnf
    cases h
    exact rfl

theorem ref01IsLawC {N : Nat} (hN : N ≤ 1073741824) {l1 : Ref01Law} {r : Bool} (h : ref01IsLaw N l1 = some r) :
    ACalls Try.prog 4 [.d (.agg [I l1.fFrames, I l1.fPins, I l1.fBalls, I l1.fTap])] [] fun e os => e = .ret (.d (.bool r)) ∧ os = [] := by
  refine acalls_f (fresh := false) tt_ok dr_ok ⟨[1], [], [], [], [1], 0⟩ Try.func4 rfl Try.call4 rfl ?_
  unfold ref01IsLaw at h
  obtain ⟨v1, hx5, h⟩ := obind h
  conv => whnf
  refine SeqG.mk Unit (fun y => [(2, .d (.bool v1))]) (fun y => []) (fun _ => True) ?_ ?_
  · obtain ⟨r5, hx6, hx5⟩ := obind hx5
    conv => whnf
    refine CallG.pure _ (ref01InC hN hx6) ?_
    conv => whnf
    refine Br.mk (fun hc4 => ?_) (fun hc4 => ?_)
    · replace hx5 := ite_t hc4 hx5
      obtain ⟨r6, hx7, hx5⟩ := obind hx5
      conv => whnf
      refine CallG.pure _ (ref01InC hN hx7) ?_
      conv => whnf
      refine Br.mk (fun hc5 => ?_) (fun hc5 => ?_)
      · replace hx5 := ite_t hc5 hx5
        obtain ⟨r7, hx8, hx5⟩ := obind hx5
        conv => whnf
        refine CallG.pure _ (ref01InC hN hx8) ?_
        conv => whnf
        refine Br.mk (fun hc6 => ?_) (fun hc6 => ?_)
        · replace hx5 := ite_t hc6 hx5
          obtain ⟨r8, hx9, hx5⟩ := obind hx5
          conv => whnf
          refine CallG.pure _ (ref01InC hN hx9) ?_
          cases hx5
          conv => whnf
          refine ⟨(), trivial, Sub.eq rfl ?_ ?_⟩
          · repeat ((conv => whnf); refine Need.mk rfl ?_)
            exact trivial
          · exact trivial
        · replace hx5 := ite_f hc6 hx5
          cases hx5
          conv => whnf
          refine ⟨(), trivial, Sub.eq rfl ?_ ?_⟩
          · repeat ((conv => whnf); refine Need.mk rfl ?_)
            exact trivial
          · exact trivial
      · replace hx5 := ite_f hc5 hx5
        cases hx5
        conv => whnf
        refine ⟨(), trivial, Sub.eq rfl ?_ ?_⟩
        · repeat ((conv => whnf); refine Need.mk rfl ?_)
          exact trivial
        · exact trivial
    · replace hx5 := ite_f hc4 hx5
      cases hx5
      conv => whnf
      refine ⟨(), trivial, Sub.eq rfl ?_ ?_⟩
      · repeat ((conv => whnf); refine Need.mk rfl ?_)
        exact trivial
      · exact trivial
  · rintro _ _
    conv => whnf
    cases h
    exact rfl

theorem frameWithinC {N : Nat} (hN : N ≤ 1073741824) {n1 : Int} {low1 : Int} {high1 : Int} {r : Bool} (h : frameWithin N n1 low1 high1 = some r) :
    ACalls Try.prog 44 [.d (I n1), .d (I low1), .d (I high1)] [] fun e os => e = .ret (.d (.bool r)) ∧ os = [] := by
  refine acalls_f (fresh := false) tt_ok dr_ok ⟨[], [], [], [], [1], 0⟩ Try.func44 rfl Try.call44 rfl ?_
  unfold frameWithin at h
  obtain ⟨v1, hx1, h⟩ := obind h
  conv => whnf
  refine SeqG.mk Unit (fun y => [(6, .d (.bool v1))]) (fun y => []) (fun _ => True) ?_ ?_
  · conv => whnf
    refine Br.mk (fun hc2 => ?_) (fun hc2 => ?_)
    · replace hx1 := ite_t hc2 hx1
      cases hx1
      conv => whnf
      refine ⟨(), trivial, Sub.eq rfl ?_ ?_⟩
      · repeat ((conv => whnf); refine Need.mk rfl ?_)
        exact trivial
      · exact trivial
    · replace hx1 := ite_f hc2 hx1
      cases hx1
      conv => whnf
      refine ⟨(), trivial, Sub.eq rfl ?_ ?_⟩
      · repeat ((conv => whnf); refine Need.mk rfl ?_)
        exact trivial
      · exact trivial
  · rintro _ _
    conv => whnf
    cases h
    exact rfl

theorem frameCheckLawC {N : Nat} (hN : N ≤ 1073741824) {l1 : FrameLaw} {r : Int} (h : frameCheckLaw N l1 = some r) :
    ACalls Try.prog 29 [.d (.agg [I l1.fFrames, I l1.fPins, I l1.fBalls, I l1.fTap])] [] fun e os => e = .ret (.d (I r)) ∧ os = [] := by
  refine acalls_f (fresh := false) tt_ok dr_ok ⟨[1], [], [], [], [1], 0⟩ Try.func29 rfl Try.call29 rfl ?_
  unfold frameCheckLaw at h
  obtain ⟨v2, hx14, h⟩ := obind h
  conv => whnf
  refine SeqG.mk Unit (fun y => [(26, .d (.bool v2))]) (fun y => []) (fun _ => True) ?_ ?_
  · obtain ⟨r13, hx15, hx14⟩ := obind hx14
    conv => whnf
    refine CallG.pure _ (frameWithinC hN hx15) ?_
    conv => whnf
    refine Br.mk (fun hc11 => ?_) (fun hc11 => ?_)
    · replace hx14 := ite_f hc11 hx14
      obtain ⟨r14, hx16, hx14⟩ := obind hx14
      conv => whnf
      refine CallG.pure _ (frameWithinC hN hx16) ?_
      conv => whnf
      refine Br.mk (fun hc12 => ?_) (fun hc12 => ?_)
      · replace hx14 := ite_f hc12 hx14
        obtain ⟨r15, hx17, hx14⟩ := obind hx14
        conv => whnf
        refine CallG.pure _ (frameWithinC hN hx17) ?_
        conv => whnf
        refine Br.mk (fun hc13 => ?_) (fun hc13 => ?_)
        · replace hx14 := ite_f hc13 hx14
          obtain ⟨r16, hx18, hx14⟩ := obind hx14
          conv => whnf
          refine CallG.pure _ (frameWithinC hN hx18) ?_
          cases hx14
          conv => whnf
          refine ⟨(), trivial, Sub.eq rfl ?_ ?_⟩
          · repeat ((conv => whnf); refine Need.mk rfl ?_)
            exact trivial
          · exact trivial
        · replace hx14 := ite_t hc13 hx14
          cases hx14
          conv => whnf
          refine ⟨(), trivial, Sub.eq rfl ?_ ?_⟩
          · repeat ((conv => whnf); refine Need.mk rfl ?_)
            exact trivial
          · exact trivial
      · replace hx14 := ite_t hc12 hx14
        cases hx14
        conv => whnf
        refine ⟨(), trivial, Sub.eq rfl ?_ ?_⟩
        · repeat ((conv => whnf); refine Need.mk rfl ?_)
          exact trivial
        · exact trivial
    · replace hx14 := ite_t hc11 hx14
      cases hx14
      conv => whnf
      refine ⟨(), trivial, Sub.eq rfl ?_ ?_⟩
      · repeat ((conv => whnf); refine Need.mk rfl ?_)
        exact trivial
      · exact trivial
  · rintro _ _
    conv => whnf
    refine Br.mk (fun hc14 => ?_) (fun hc14 => ?_)
    · replace h := ite_t hc14 h
      conv => whnf
      cases h
      exact rfl
    · replace h := ite_f hc14 h
      conv => whnf
      cases h
      exact rfl

theorem frameLawBallsC {N : Nat} (hN : N ≤ 1073741824) {l1 : FrameLaw} {sheet1 : List Int} {r : FrameLaw × (List Int)} (h : frameLawBalls N l1 sheet1 = some r) :
    ACalls Try.prog 19 [.d (.agg [I l1.fFrames, I l1.fPins, I l1.fBalls, I l1.fTap]), .d (.list 1 (List.map I sheet1))] [] fun e os => e = .ret (.d (.fn (.func 35) [] [.ref (.agg [I r.1.fFrames, I r.1.fPins, I r.1.fBalls, I r.1.fTap]), .ref (.agg [.list 1 (List.map I r.2)])])) ∧ os = [] := by
  refine acalls_f (fresh := false) tt_ok dr_ok ⟨[2, 3], [], [], [], [], 0⟩ Try.func19 rfl Try.call19 rfl ?_
  unfold frameLawBalls at h
  conv => whnf
  cases h
  exact rfl

theorem frameLawBeginC {N : Nat} (hN : N ≤ 1073741824) {l1 : FrameLaw} {r : FramePlay} (h : frameLawBegin N l1 = some r) :
    ACalls Try.prog 36 [.d (.agg [I l1.fFrames, I l1.fPins, I l1.fBalls, I l1.fTap])] [] fun e os => e = .ret (.d (.agg [I r.fLaw.fFrames, I r.fLaw.fPins, I r.fLaw.fBalls, I r.fLaw.fTap, I r.fAt.fFrame, I r.fAt.fThrown, I r.fAt.fStanding, .bool r.fAt.fFresh, I r.fAt.fNeed, I r.fAt.fAfter.a0, I r.fAt.fAfter.a1])) ∧ os = [] := by
  refine acalls_f (fresh := false) tt_ok dr_ok ⟨[1], [], [], [], [], 0⟩ Try.func36 rfl Try.call36 rfl ?_
  unfold frameLawBegin at h
  conv => whnf
  intro b2
  conv => whnf
  refine Side.mk rfl ?_
  conv => whnf
  refine Side.mk rfl ?_
  conv => whnf
  cases h
  exact rfl

theorem framePlayDoneC {N : Nat} (hN : N ≤ 1073741824) {p1 : FramePlay} {r : Bool} (h : framePlayDone N p1 = some r) :
    ACalls Try.prog 21 [.d (.agg [I p1.fLaw.fFrames, I p1.fLaw.fPins, I p1.fLaw.fBalls, I p1.fLaw.fTap, I p1.fAt.fFrame, I p1.fAt.fThrown, I p1.fAt.fStanding, .bool p1.fAt.fFresh, I p1.fAt.fNeed, I p1.fAt.fAfter.a0, I p1.fAt.fAfter.a1])] [] fun e os => e = .ret (.d (.bool r)) ∧ os = [] := by
  refine acalls_f (fresh := false) tt_ok dr_ok ⟨[1], [], [], [], [], 0⟩ Try.func21 rfl Try.call21 rfl ?_
  unfold framePlayDone at h
  conv => whnf
  cases h
  exact rfl

theorem framePlayMayC {N : Nat} (hN : N ≤ 1073741824) {p1 : FramePlay} {ball1 : Int} {r : Bool} (h : framePlayMay N p1 ball1 = some r) :
    ACalls Try.prog 37 [.d (.agg [I p1.fLaw.fFrames, I p1.fLaw.fPins, I p1.fLaw.fBalls, I p1.fLaw.fTap, I p1.fAt.fFrame, I p1.fAt.fThrown, I p1.fAt.fStanding, .bool p1.fAt.fFresh, I p1.fAt.fNeed, I p1.fAt.fAfter.a0, I p1.fAt.fAfter.a1]), .d (I ball1)] [] fun e os => e = .ret (.d (.bool r)) ∧ os = [] := by
  refine acalls_f (fresh := false) tt_ok dr_ok ⟨[2], [], [], [], [1], 0⟩ Try.func37 rfl Try.call37 rfl ?_
  unfold framePlayMay at h
  obtain ⟨v1, hx3, h⟩ := obind h
  conv => whnf
  refine SeqG.mk Unit (fun y => [(4, .d (.bool v1))]) (fun y => []) (fun _ => True) ?_ ?_
  · obtain ⟨r3, hx4, hx3⟩ := obind hx3
    conv => whnf
    refine CallG.pure _ (framePlayDoneC hN hx4) ?_
    conv => whnf
    refine Br.mk (fun hc2 => ?_) (fun hc2 => ?_)
    · replace hx3 := ite_t hc2 hx3
      obtain ⟨r4, hx5, hx3⟩ := obind hx3
      conv => whnf
      refine CallG.pure _ (frameWithinC hN hx5) ?_
      cases hx3
      conv => whnf
      refine ⟨(), trivial, Sub.eq rfl ?_ ?_⟩
      · repeat ((conv => whnf); refine Need.mk rfl ?_)
        exact trivial
      · exact trivial
    · replace hx3 := ite_f hc2 hx3
      cases hx3
      conv => whnf
      refine ⟨(), trivial, Sub.eq rfl ?_ ?_⟩
      · repeat ((conv => whnf); refine Need.mk rfl ?_)
        exact trivial
      · exact trivial
  · rintro _ _
    conv => whnf
    cases h
    exact rfl

theorem framePlayNextC {N : Nat} (hN : N ≤ 1073741824) {a1 : FramePlay} {a2 : Int} {r : FramePlay × Int × Int} (h : framePlayNext N a1 a2 = some r) :
    ACalls Try.prog 38 [.d (.agg [I a1.fLaw.fFrames, I a1.fLaw.fPins, I a1.fLaw.fBalls, I a1.fLaw.fTap, I a1.fAt.fFrame, I a1.fAt.fThrown, I a1.fAt.fStanding, .bool a1.fAt.fFresh, I a1.fAt.fNeed, I a1.fAt.fAfter.a0, I a1.fAt.fAfter.a1]), .d (I a2)] [] fun e os => e = .ret (.d (.tup [.agg [I r.1.fLaw.fFrames, I r.1.fLaw.fPins, I r.1.fLaw.fBalls, I r.1.fLaw.fTap, I r.1.fAt.fFrame, I r.1.fAt.fThrown, I r.1.fAt.fStanding, .bool r.1.fAt.fFresh, I r.1.fAt.fNeed, I r.1.fAt.fAfter.a0, I r.1.fAt.fAfter.a1], I r.2.1, I r.2.2])) ∧ os = [] := by
  refine acalls_f (fresh := false) tt_ok dr_ok ⟨[], [], [], [], [2, 10, 13, 15, 17, 1002, 1010, 1017], 0⟩ Try.func38 rfl Try.call38 rfl ?_
  unfold framePlayNext at h
  conv => whnf
  intro b3
  conv => whnf
  intro b4
  obtain ⟨v3, hx2, h⟩ := obind h
  conv => whnf
  refine SeqG.mk Unit (fun y => [(2, .ptr 2 b3 0), (4, .ptr 4 b4 0), (7, .d (I v3))]) (fun y => [(2, .cells b3 [.d (I a1.fLaw.fFrames), .d (I a1.fLaw.fPins), .d (I a1.fLaw.fBalls), .d (I a1.fLaw.fTap), .d (I a1.fAt.fFrame), .d (I a1.fAt.fThrown), .d (I a1.fAt.fStanding), .d (.bool a1.fAt.fFresh), .d (I a1.fAt.fNeed), .d (I a1.fAt.fAfter.a0), .d (I a1.fAt.fAfter.a1)]), (4, .cells b4 [.d (I 0), .d (I 0), .d (I 0), .d (I 0), .d (I 0), .d (I 0), .d (I 0), .d (.bool false), .d (I 0), .d (I 0), .d (I 0)])]) (fun _ => True) ?_ ?_
  · obtain ⟨⟨v4, v5⟩, hx3, hx2⟩ := obind hx2
    conv => whnf
    refine SeqG.mk Unit (fun y => [(2, .ptr 2 b3 0), (4, .ptr 4 b4 0), (7, .d (I v4)), (22, .d (.bool v5))]) (fun y => [(2, .cells b3 [.d (I a1.fLaw.fFrames), .d (I a1.fLaw.fPins), .d (I a1.fLaw.fBalls), .d (I a1.fLaw.fTap), .d (I a1.fAt.fFrame), .d (I a1.fAt.fThrown), .d (I a1.fAt.fStanding), .d (.bool a1.fAt.fFresh), .d (I a1.fAt.fNeed), .d (I a1.fAt.fAfter.a0), .d (I a1.fAt.fAfter.a1)]), (4, .cells b4 [.d (I 0), .d (I 0), .d (I 0), .d (I 0), .d (I 0), .d (I 0), .d (I 0), .d (.bool false), .d (I 0), .d (I 0), .d (I 0)])]) (fun _ => True) ?_ ?_
    · conv => whnf
      refine Side.mk rfl ?_
      conv => whnf
      refine Br.mk (fun hc5 => ?_) (fun hc5 => ?_)
      · replace hx3 := ite_t hc5 hx3
        conv => whnf
        refine Side.mk rfl ?_
        cases hx3
        conv => whnf
        refine ⟨(), trivial, Sub.eq rfl ?_ ?_⟩
        · repeat ((conv => whnf); refine Need.mk rfl ?_)
          exact trivial
        · conv => whnf
          refine Need.mk (OLe.refl _) ?_
          conv => whnf
          refine Need.mk (OLe.refl _) ?_
          exact trivial
      · replace hx3 := ite_f hc5 hx3
        cases hx3
        conv => whnf
        refine ⟨(), trivial, Sub.eq rfl ?_ ?_⟩
        · repeat ((conv => whnf); refine Need.mk rfl ?_)
          exact trivial
        · conv => whnf
          refine Need.mk (OLe.refl _) ?_
          conv => whnf
          refine Need.mk (OLe.refl _) ?_
          exact trivial
    · rintro _ _
      conv => whnf
      refine Br.mk (fun hc6 => ?_) (fun hc6 => ?_)
      · replace hx2 := ite_t hc6 hx2
        conv => whnf
        refine Side.mk rfl ?_
        cases hx2
        conv => whnf
        refine ⟨(), trivial, Sub.eq rfl ?_ ?_⟩
        · repeat ((conv => whnf); refine Need.mk rfl ?_)
          exact trivial
        · conv => whnf
          refine Need.mk (OLe.refl _) ?_
          conv => whnf
          refine Need.mk (OLe.refl _) ?_
          exact trivial
      · replace hx2 := ite_f hc6 hx2
        cases hx2
        conv => whnf
        refine ⟨(), trivial, Sub.eq rfl ?_ ?_⟩
        · repeat ((conv => whnf); refine Need.mk rfl ?_)
          exact trivial
        · conv => whnf
          refine Need.mk (OLe.refl _) ?_
          conv => whnf
          refine Need.mk (OLe.refl _) ?_
          exact trivial
  · rintro _ _
    conv => whnf
    refine Need.mk (by decide) ?_
    conv => whnf
    refine Side.mk rfl ?_
    conv => whnf
    refine Need.mk (by decide) ?_
    conv => whnf
    refine Side.mk rfl ?_
    conv => whnf
    refine Side.mk rfl ?_
    conv => whnf
    refine Side.mk rfl ?_
    conv => whnf
    refine Side.mk rfl ?_
    conv => whnf
    refine Side.mk rfl ?_
    conv => whnf
    refine Side.mk rfl ?_
    conv => whnf
    refine Side.mk rfl ?_
    conv => whnf
    refine Side.mk rfl ?_
    conv => whnf
    refine Side.mk rfl ?_
    conv => whnf
    refine Side.mk rfl ?_
    obtain ⟨⟨v12, v13, v14, c2⟩, hx7, h⟩ := obind h
    conv => whnf
    refine SeqG.mk Unit (fun y => [(2, .ptr 2 b3 0), (4, .ptr 4 b4 0), (7, .d (I v3)), (8, .d (I v12)), (9, .d (.bool v13)), (10, .d (.bool v14))]) (fun y => [(2, .cells b3 [.d (I c2.fLaw.fFrames), .d (I c2.fLaw.fPins), .d (I c2.fLaw.fBalls), .d (I c2.fLaw.fTap), .d (I c2.fAt.fFrame), .d (I c2.fAt.fThrown), .d (I c2.fAt.fStanding), .d (.bool c2.fAt.fFresh), .d (I c2.fAt.fNeed), .d (I c2.fAt.fAfter.a0), .d (I c2.fAt.fAfter.a1)]), (4, .cells b4 [.d (I 0), .d (I 0), .d (I 0), .d (I 0), .d (I 0), .d (I 0), .d (I 0), .d (.bool false), .d (I 0), .d (I 0), .d (I 0)])]) (fun _ => True) ?_ ?_
    · obtain ⟨⟨v15, v16, v17, v18, c3⟩, hx8, hx7⟩ := obind hx7
      conv => whnf
      refine SeqG.mk Unit (fun y => [(2, .ptr 2 b3 0), (4, .ptr 4 b4 0), (7, .d (I v3)), (8, .d (I v15)), (9, .d (.bool v16)), (10, .d (.bool v17)), (67, .d (.bool v18))]) (fun y => [(2, .cells b3 [.d (I c3.fLaw.fFrames), .d (I c3.fLaw.fPins), .d (I c3.fLaw.fBalls), .d (I c3.fLaw.fTap), .d (I c3.fAt.fFrame), .d (I c3.fAt.fThrown), .d (I c3.fAt.fStanding), .d (.bool c3.fAt.fFresh), .d (I c3.fAt.fNeed), .d (I c3.fAt.fAfter.a0), .d (I c3.fAt.fAfter.a1)]), (4, .cells b4 [.d (I 0), .d (I 0), .d (I 0), .d (I 0), .d (I 0), .d (I 0), .d (I 0), .d (.bool false), .d (I 0), .d (I 0), .d (I 0)])]) (fun _ => True) ?_ ?_
      · conv => whnf
        refine Br.mk (fun hc24 => ?_) (fun hc24 => ?_)
        · replace hx8 := ite_t hc24 hx8
          conv => whnf
          refine Br.mk (fun hc25 => ?_) (fun hc25 => ?_)
          · replace hx8 := ite_t hc25 hx8
            conv => whnf
            refine Side.mk rfl ?_
            cases hx8
            conv => whnf
            refine ⟨(), trivial, Sub.eq rfl ?_ ?_⟩
            · repeat ((conv => whnf); refine Need.mk rfl ?_)
              exact trivial
            · conv => whnf
              refine Need.mk (OLe.refl _) ?_
              conv => whnf
              refine Need.mk (OLe.refl _) ?_
              exact trivial
          · replace hx8 := ite_f hc25 hx8
            cases hx8
            conv => whnf
            refine ⟨(), trivial, Sub.eq rfl ?_ ?_⟩
            · repeat ((conv => whnf); refine Need.mk rfl ?_)
              exact trivial
            · conv => whnf
              refine Need.mk (OLe.refl _) ?_
              conv => whnf
              refine Need.mk (OLe.refl _) ?_
              exact trivial
        · replace hx8 := ite_f hc24 hx8
          cases hx8
          conv => whnf
          refine ⟨(), trivial, Sub.eq rfl ?_ ?_⟩
          · repeat ((conv => whnf); refine Need.mk rfl ?_)
            exact trivial
          · conv => whnf
            refine Need.mk (OLe.refl _) ?_
            conv => whnf
            refine Need.mk (OLe.refl _) ?_
            exact trivial
      · rintro _ _
        conv => whnf
        refine Br.mk (fun hc26 => ?_) (fun hc26 => ?_)
        · replace hx7 := ite_t hc26 hx7
          conv => whnf
          refine Side.mk rfl ?_
          conv => whnf
          refine Side.mk rfl ?_
          conv => whnf
          refine Side.mk rfl ?_
          conv => whnf
          refine Side.mk rfl ?_
          cases hx7
          conv => whnf
          refine ⟨(), trivial, Sub.eq rfl ?_ ?_⟩
          · repeat ((conv => whnf); refine Need.mk rfl ?_)
            exact trivial
          · conv => whnf
            refine Need.mk (OLe.refl _) ?_
            conv => whnf
            refine Need.mk (OLe.refl _) ?_
            exact trivial
        · replace hx7 := ite_f hc26 hx7
          obtain ⟨v19, hx9, hx7⟩ := obind hx7
          conv => whnf
          refine SeqG.mk Unit (fun y => [(2, .ptr 2 b3 0), (4, .ptr 4 b4 0), (7, .d (I v3)), (8, .d (I v15)), (9, .d (.bool v16)), (10, .d (.bool v17)), (87, .d (.bool v19))]) (fun y => [(2, .cells b3 [.d (I c3.fLaw.fFrames), .d (I c3.fLaw.fPins), .d (I c3.fLaw.fBalls), .d (I c3.fLaw.fTap), .d (I c3.fAt.fFrame), .d (I c3.fAt.fThrown), .d (I c3.fAt.fStanding), .d (.bool c3.fAt.fFresh), .d (I c3.fAt.fNeed), .d (I c3.fAt.fAfter.a0), .d (I c3.fAt.fAfter.a1)]), (4, .cells b4 [.d (I 0), .d (I 0), .d (I 0), .d (I 0), .d (I 0), .d (I 0), .d (I 0), .d (.bool false), .d (I 0), .d (I 0), .d (I 0)])]) (fun _ => True) ?_ ?_
          · conv => whnf
            refine Br.mk (fun hc29 => ?_) (fun hc29 => ?_)
            · replace hx9 := ite_t hc29 hx9
              conv => whnf
              refine Br.mk (fun hc30 => ?_) (fun hc30 => ?_)
              · replace hx9 := ite_t hc30 hx9
                conv => whnf
                refine Side.mk rfl ?_
                cases hx9
                conv => whnf
                refine ⟨(), trivial, Sub.eq rfl ?_ ?_⟩
                · repeat ((conv => whnf); refine Need.mk rfl ?_)
                  exact trivial
                · conv => whnf
                  refine Need.mk (OLe.refl _) ?_
                  conv => whnf
                  refine Need.mk (OLe.refl _) ?_
                  exact trivial
              · replace hx9 := ite_f hc30 hx9
                cases hx9
                conv => whnf
                refine ⟨(), trivial, Sub.eq rfl ?_ ?_⟩
                · repeat ((conv => whnf); refine Need.mk rfl ?_)
                  exact trivial
                · conv => whnf
                  refine Need.mk (OLe.refl _) ?_
                  conv => whnf
                  refine Need.mk (OLe.refl _) ?_
                  exact trivial
            · replace hx9 := ite_f hc29 hx9
              cases hx9
              conv => whnf
              refine ⟨(), trivial, Sub.eq rfl ?_ ?_⟩
              · repeat ((conv => whnf); refine Need.mk rfl ?_)
                exact trivial
              · conv => whnf
                refine Need.mk (OLe.refl _) ?_
                conv => whnf
                refine Need.mk (OLe.refl _) ?_
                exact trivial
          · rintro _ _
            conv => whnf
            refine Br.mk (fun hc31 => ?_) (fun hc31 => ?_)
            · replace hx7 := ite_t hc31 hx7
              conv => whnf
              refine Need.mk (by decide) ?_
              conv => whnf
              refine Side.mk rfl ?_
              conv => whnf
              refine Need.mk (by decide) ?_
              conv => whnf
              refine Side.mk rfl ?_
              conv => whnf
              refine Side.mk rfl ?_
              cases hx7
              conv => whnf
              refine ⟨(), trivial, Sub.eq rfl ?_ ?_⟩
              · repeat ((conv => whnf); refine Need.mk rfl ?_)
                exact trivial
              · conv => whnf
                refine Need.mk (OLe.refl _) ?_
                conv => whnf
                refine Need.mk (OLe.refl _) ?_
                exact trivial
            · replace hx7 := ite_f hc31 hx7
              obtain ⟨v20, hx10, hx7⟩ := obind hx7
              conv => whnf
              refine SeqG.mk Unit (fun y => [(2, .ptr 2 b3 0), (4, .ptr 4 b4 0), (7, .d (I v3)), (8, .d (I v15)), (9, .d (.bool v16)), (10, .d (.bool v17)), (112, .d (.bool v20))]) (fun y => [(2, .cells b3 [.d (I c3.fLaw.fFrames), .d (I c3.fLaw.fPins), .d (I c3.fLaw.fBalls), .d (I c3.fLaw.fTap), .d (I c3.fAt.fFrame), .d (I c3.fAt.fThrown), .d (I c3.fAt.fStanding), .d (.bool c3.fAt.fFresh), .d (I c3.fAt.fNeed), .d (I c3.fAt.fAfter.a0), .d (I c3.fAt.fAfter.a1)]), (4, .cells b4 [.d (I 0), .d (I 0), .d (I 0), .d (I 0), .d (I 0), .d (I 0), .d (I 0), .d (.bool false), .d (I 0), .d (I 0), .d (I 0)])]) (fun _ => True) ?_ ?_
              · conv => whnf
                refine Br.mk (fun hc34 => ?_) (fun hc34 => ?_)
                · replace hx10 := ite_t hc34 hx10
                  conv => whnf
                  refine Br.mk (fun hc35 => ?_) (fun hc35 => ?_)
                  · replace hx10 := ite_t hc35 hx10
                    conv => whnf
                    refine Side.mk rfl ?_
                    cases hx10
                    conv => whnf
                    refine ⟨(), trivial, Sub.eq rfl ?_ ?_⟩
                    · repeat ((conv => whnf); refine Need.mk rfl ?_)
                      exact trivial
                    · conv => whnf
                      refine Need.mk (OLe.refl _) ?_
                      conv => whnf
                      refine Need.mk (OLe.refl _) ?_
                      exact trivial
                  · replace hx10 := ite_f hc35 hx10
                    cases hx10
                    conv => whnf
                    refine ⟨(), trivial, Sub.eq rfl ?_ ?_⟩
                    · repeat ((conv => whnf); refine Need.mk rfl ?_)
                      exact trivial
                    · conv => whnf
                      refine Need.mk (OLe.refl _) ?_
                      conv => whnf
                      refine Need.mk (OLe.refl _) ?_
                      exact trivial
                · replace hx10 := ite_f hc34 hx10
                  cases hx10
                  conv => whnf
                  refine ⟨(), trivial, Sub.eq rfl ?_ ?_⟩
                  · repeat ((conv => whnf); refine Need.mk rfl ?_)
                    exact trivial
                  · conv => whnf
                    refine Need.mk (OLe.refl _) ?_
                    conv => whnf
                    refine Need.mk (OLe.refl _) ?_
                    exact trivial
              · rintro _ _
                conv => whnf
                refine Br.mk (fun hc36 => ?_) (fun hc36 => ?_)
                · replace hx7 := ite_t hc36 hx7
                  conv => whnf
                  refine Need.mk (by decide) ?_
                  conv => whnf
                  refine Side.mk rfl ?_
                  conv => whnf
                  refine Need.mk (by decide) ?_
                  conv => whnf
                  refine Side.mk rfl ?_
                  cases hx7
                  conv => whnf
                  refine ⟨(), trivial, Sub.eq rfl ?_ ?_⟩
                  · repeat ((conv => whnf); refine Need.mk rfl ?_)
                    exact trivial
                  · conv => whnf
                    refine Need.mk (OLe.refl _) ?_
                    conv => whnf
                    refine Need.mk (OLe.refl _) ?_
                    exact trivial
                · replace hx7 := ite_f hc36 hx7
                  cases hx7
                  conv => whnf
                  refine ⟨(), trivial, Sub.eq rfl ?_ ?_⟩
                  · repeat ((conv => whnf); refine Need.mk rfl ?_)
                    exact trivial
                  · conv => whnf
                    refine Need.mk (OLe.refl _) ?_
                    conv => whnf
                    refine Need.mk (OLe.refl _) ?_
                    exact trivial
    · rintro _ _
      obtain ⟨c4, hx12, h⟩ := obind h
      conv => whnf
      refine SeqG.mk Unit (fun y => [(2, .ptr 2 b3 0), (4, .ptr 4 b4 0), (7, .d (I v3)), (8, .d (I v12))]) (fun y => [(2, .cells b3 [.d (I c4.fLaw.fFrames), .d (I c4.fLaw.fPins), .d (I c4.fLaw.fBalls), .d (I c4.fLaw.fTap), .d (I c4.fAt.fFrame), .d (I c4.fAt.fThrown), .d (I c4.fAt.fStanding), .d (.bool c4.fAt.fFresh), .d (I c4.fAt.fNeed), .d (I c4.fAt.fAfter.a0), .d (I c4.fAt.fAfter.a1)]), (4, .cells b4 [.d (I 0), .d (I 0), .d (I 0), .d (I 0), .d (I 0), .d (I 0), .d (I 0), .d (.bool false), .d (I 0), .d (I 0), .d (I 0)])]) (fun _ => True) ?_ ?_
      · obtain ⟨v22, hx13, hx12⟩ := obind hx12
        conv => whnf
        refine SeqG.mk Unit (fun y => [(2, .ptr 2 b3 0), (4, .ptr 4 b4 0), (7, .d (I v3)), (8, .d (I v12)), (145, .d (.bool v22))]) (fun y => [(2, .cells b3 [.d (I c2.fLaw.fFrames), .d (I c2.fLaw.fPins), .d (I c2.fLaw.fBalls), .d (I c2.fLaw.fTap), .d (I c2.fAt.fFrame), .d (I c2.fAt.fThrown), .d (I c2.fAt.fStanding), .d (.bool c2.fAt.fFresh), .d (I c2.fAt.fNeed), .d (I c2.fAt.fAfter.a0), .d (I c2.fAt.fAfter.a1)]), (4, .cells b4 [.d (I 0), .d (I 0), .d (I 0), .d (I 0), .d (I 0), .d (I 0), .d (I 0), .d (.bool false), .d (I 0), .d (I 0), .d (I 0)])]) (fun _ => True) ?_ ?_
        · conv => whnf
          refine Side.mk rfl ?_
          conv => whnf
          refine Side.mk rfl ?_
          conv => whnf
          refine Br.mk (fun hc44 => ?_) (fun hc44 => ?_)
          · replace hx13 := ite_f hc44 hx13
            conv => whnf
            refine Br.mk (fun hc45 => ?_) (fun hc45 => ?_)
            · replace hx13 := ite_t hc45 hx13
              cases hx13
              conv => whnf
              refine ⟨(), trivial, Sub.eq rfl ?_ ?_⟩
              · repeat ((conv => whnf); refine Need.mk rfl ?_)
                exact trivial
              · conv => whnf
                refine Need.mk (OLe.refl _) ?_
                conv => whnf
                refine Need.mk (OLe.refl _) ?_
                exact trivial
            · replace hx13 := ite_f hc45 hx13
              cases hx13
              conv => whnf
              refine ⟨(), trivial, Sub.eq rfl ?_ ?_⟩
              · repeat ((conv => whnf); refine Need.mk rfl ?_)
                exact trivial
              · conv => whnf
                refine Need.mk (OLe.refl _) ?_
                conv => whnf
                refine Need.mk (OLe.refl _) ?_
                exact trivial
          · replace hx13 := ite_t hc44 hx13
            cases hx13
            conv => whnf
            refine ⟨(), trivial, Sub.eq rfl ?_ ?_⟩
            · repeat ((conv => whnf); refine Need.mk rfl ?_)
              exact trivial
            · conv => whnf
              refine Need.mk (OLe.refl _) ?_
              conv => whnf
              refine Need.mk (OLe.refl _) ?_
              exact trivial
        · rintro _ _
          conv => whnf
          refine Br.mk (fun hc46 => ?_) (fun hc46 => ?_)
          · replace hx12 := ite_t hc46 hx12
            conv => whnf
            refine Side.mk rfl ?_
            conv => whnf
            refine Side.mk rfl ?_
            conv => whnf
            refine Side.mk rfl ?_
            conv => whnf
            refine Side.mk rfl ?_
            conv => whnf
            refine Side.mk rfl ?_
            cases hx12
            conv => whnf
            refine ⟨(), trivial, Sub.eq rfl ?_ ?_⟩
            · repeat ((conv => whnf); refine Need.mk rfl ?_)
              exact trivial
            · conv => whnf
              refine Need.mk (OLe.refl _) ?_
              conv => whnf
              refine Need.mk (OLe.refl _) ?_
              exact trivial
          · replace hx12 := ite_f hc46 hx12
            cases hx12
            conv => whnf
            refine ⟨(), trivial, Sub.eq rfl ?_ ?_⟩
            · repeat ((conv => whnf); refine Need.mk rfl ?_)
              exact trivial
            · conv => whnf
              refine Need.mk (OLe.refl _) ?_
              conv => whnf
              refine Need.mk (OLe.refl _) ?_
              exact trivial
      · rintro _ _
        conv => whnf
        refine Side.mk rfl ?_
        conv => whnf
        refine Side.mk rfl ?_
        conv => whnf
        refine Side.mk rfl ?_
        conv => whnf
        cases h
        exact rfl

theorem frameLawBadC {N : Nat} (hN : N ≤ 1073741824) {l1 : FrameLaw} {sheet1 : List Int} {r : Int} (h : frameLawBad N l1 sheet1 = some r) :
    ACalls Try.prog 30 [.d (.agg [I l1.fFrames, I l1.fPins, I l1.fBalls, I l1.fTap]), .d (.list 1 (List.map I sheet1))] [] fun e os => e = .ret (.d (I r)) ∧ os = [] := by
  refine acalls_f (fresh := false) tt_ok dr_ok ⟨[2], [], [], [], [1002], 0⟩ Try.func30 rfl Try.call30 rfl ?_
  unfold frameLawBad at h
  conv => whnf
  intro b2
  conv => whnf
  refine Side.mk rfl ?_
  obtain ⟨c9, hx53, h⟩ := obind h
  conv => whnf
  refine SeqG.mk Unit (fun y => [(5, .ptr 5 b2 0)]) (fun y => [(5, .cells b2 [.d (I c9)])]) (fun _ => True) ?_ ?_
  · obtain ⟨⟨ra16, rb16⟩, hx55, hx53⟩ := obind hx53
    conv => whnf
    refine CallG.pure _ (frameLawBallsC hN hx55) ?_
    conv => whnf
    intro lp2 rc14
    refine IterG.mk _ _ ⟨[], [], [], [], [], 2000⟩ Try.func35 rfl Try.call35 rfl rfl ?_
    obtain ⟨r28, hx57, hx53⟩ := obind hx53
    conv => whnf
    refine CallG.pure _ (frameLawBeginC hN hx57) ?_
    conv => whnf
    intro b18
    conv => whnf
    refine Side.mk rfl ?_
    conv => whnf
    refine Ln.mk _ (List.length_map _) ?_
    conv => whnf
    refine LoopG.mk (Nat × (Int × Int × FramePlay × Int)) (fun y => [(0, .fn (.yield lp2) [] []), (4, .ptr 2004 b18 0), (13, .d (.list 1 (List.map I rb16))), (14, .d (I y.2.1)), (15, .d (I y.2.2.1))]) (fun y => [(2004, .cells b18 [.d (I y.2.2.2.1.fLaw.fFrames), .d (I y.2.2.2.1.fLaw.fPins), .d (I y.2.2.2.1.fLaw.fBalls), .d (I y.2.2.2.1.fLaw.fTap), .d (I y.2.2.2.1.fAt.fFrame), .d (I y.2.2.2.1.fAt.fThrown), .d (I y.2.2.2.1.fAt.fStanding), .d (.bool y.2.2.2.1.fAt.fFresh), .d (I y.2.2.2.1.fAt.fNeed), .d (I y.2.2.2.1.fAt.fAfter.a0), .d (I y.2.2.2.1.fAt.fAfter.a1)]), (5, .cells b2 [.d (I y.2.2.2.2)]), (1000, .loop lp2 rc14 none)]) (fun y => loopN (fun rr x => frameLawBad_b1 N rb16 rr x.1 x.2.1 x.2.2.1 x.2.2.2) y.1 y.2 = some c9) (fun y => y.1) (N, ((rb16.length : Int), 0, r28, 0)) hx53 (Sub.eq rfl ?_ ?_) ?_
    · repeat ((conv => whnf); refine Need.mk rfl ?_)
      exact trivial
    · conv => whnf
      refine Need.mk (OLe.refl _) ?_
      conv => whnf
      refine Need.mk (OLe.refl _) ?_
      conv => whnf
      refine Need.mk (OLe.refl _) ?_
      exact trivial
    · rintro ⟨n2, ⟨v17, v18, c16, c17⟩⟩ hl2
      obtain ⟨n2, rfl, hl2⟩ := loopN_some hl2
      replace hl2 : frameLawBad_b1 N rb16 (loopN (fun rr x => frameLawBad_b1 N rb16 rr x.1 x.2.1 x.2.2.1 x.2.2.2) n2) v17 v18 c16 c17 = some c9 := hl2
      rw [frameLawBad_b1] at hl2
      conv => whnf
      refine Br.mk (fun hc32 => ?_) (fun hc32 => ?_)
      · replace hl2 := ite_t hc32 hl2
        obtain ⟨x24, hx99, hl2⟩ := obind hl2
        conv => whnf
        refine Side.mk rfl ⟨_, idx_0 hx99, idx_map _ hx99, ?_⟩
        conv => whnf
        refine Side.mk rfl ?_
        obtain ⟨r52, hx103, hl2⟩ := obind hl2
        conv => whnf
        refine CallG.pure _ (framePlayMayC hN hx103) ?_
        conv => whnf
        refine Br.mk (fun hc36 => ?_) (fun hc36 => ?_)
        · replace hl2 := ite_t hc36 hl2
          conv => whnf
          refine Side.mk ⟨rfl, rfl⟩ ?_
          cases hl2
          conv => whnf
          refine ⟨(), trivial, Sub.eq rfl ?_ ?_⟩
          · repeat ((conv => whnf); refine Need.mk rfl ?_)
            exact trivial
          · conv => whnf
            refine Need.mk (OLe.refl _) ?_
            exact trivial
        · replace hl2 := ite_f hc36 hl2
          conv => whnf
          refine Side.mk rfl ?_
          obtain ⟨⟨ra28, rb28, rc26⟩, hx105, hl2⟩ := obind hl2
          conv => whnf
          refine CallG.pure _ (framePlayNextC hN hx105) ?_
          conv => whnf
          intro b30
          conv => whnf
          refine Side.mk rfl ?_
          conv => whnf
          refine Side.mk rfl ?_
          conv => whnf
          refine Side.mk rfl ?_
          conv => whnf
          refine Side.mk ⟨rfl, rfl, rfl⟩ ?_
          conv => whnf
          refine Side.mk rfl ?_
          conv => whnf
          refine Side.mk rfl ?_
          conv => whnf
          refine Side.mk rfl ?_
          conv => whnf
          refine ⟨(n2, (v17, w64 (v18 + 1), ra28, w64 (v18 + 1))), hl2, Sub.eq rfl ?_ ?_, Nat.lt_succ_self _⟩
          · repeat ((conv => whnf); refine Need.mk rfl ?_)
            exact trivial
          · conv => whnf
            refine Need.mk (OLe.refl _) ?_
            conv => whnf
            refine Need.mk (OLe.refl _) ?_
            conv => whnf
            refine Need.mk (OLe.refl _) ?_
            exact trivial
      · replace hl2 := ite_f hc32 hl2
        conv => whnf
        refine Side.mk ⟨rfl, rfl⟩ ?_
        cases hl2
        conv => whnf
        refine ⟨(), trivial, Sub.eq rfl ?_ ?_⟩
        · repeat ((conv => whnf); refine Need.mk rfl ?_)
          exact trivial
        · conv => whnf
          refine Need.mk (OLe.refl _) ?_
          exact trivial
  · rintro _ _
    conv => whnf
    refine Side.mk rfl ?_
    conv => whnf
    cases h
    exact rfl

theorem frameLawCheckC {N : Nat} (hN : N ≤ 1073741824) {l1 : FrameLaw} {sheet1 : List Int} {r : Int} (h : frameLawCheck N l1 sheet1 = some r) :
    ACalls Try.prog 16 [.d (.agg [I l1.fFrames, I l1.fPins, I l1.fBalls, I l1.fTap]), .d (.list 1 (List.map I sheet1))] [] fun e os => e = .ret (.d (I r)) ∧ os = [] := by
  refine acalls_f (fresh := false) tt_ok dr_ok ⟨[2], [], [], [], [], 0⟩ Try.func16 rfl Try.call16 rfl ?_
  unfold frameLawCheck at h
  obtain ⟨r6, hx6, h⟩ := obind h
  conv => whnf
  refine CallG.pure _ (frameCheckLawC hN hx6) ?_
  conv => whnf
  refine Br.mk (fun hc4 => ?_) (fun hc4 => ?_)
  · replace h := ite_t hc4 h
    conv => whnf
    cases h
    exact rfl
  · replace h := ite_f hc4 h
    conv => whnf
    refine Ln.mk _ (List.length_map _) ?_
    conv => whnf
    refine Br.mk (fun hc5 => ?_) (fun hc5 => ?_)
    · replace h := ite_t hc5 h
      conv => whnf
      cases h
      exact rfl
    · replace h := ite_f hc5 h
      obtain ⟨r8, hx8, h⟩ := obind h
      conv => whnf
      refine CallG.pure _ (frameLawBadC hN hx8) ?_
      conv => whnf
      refine Ln.mk _ (List.length_map _) ?_
      conv => whnf
      refine Br.mk (fun hc6 => ?_) (fun hc6 => ?_)
      · replace h := ite_t hc6 h
        conv => whnf
        cases h
        exact rfl
      · replace h := ite_f hc6 h
        conv => whnf
        cases h
        exact rfl

theorem frameSumC {N : Nat} (hN : N ≤ 1073741824) {l1 : List Int} {r : Int} (h : frameSum N l1 = some r) :
    ACalls Try.prog 34 [.d (.list 1 (List.map I l1))] [] fun e os => e = .ret (.d (I r)) ∧ os = [] := by
  refine acalls_f (fresh := false) tt_ok dr_ok ⟨[], [], [], [], [1001], 0⟩ Try.func34 rfl Try.call34 rfl ?_
  unfold frameSum at h
  obtain ⟨n6, hx13, h⟩ := obind h
  conv => whnf
  refine SeqG.mk Unit (fun y => [(2, .d (I n6))]) (fun y => []) (fun _ => True) ?_ ?_
  · conv => whnf
    refine Ln.mk _ (List.length_map _) ?_
    conv => whnf
    refine LoopG.mk (Nat × (Int × Int × Int)) (fun y => [(2, .d (I y.2.1)), (5, .d (.list 1 (List.map I l1))), (6, .d (I y.2.2.1)), (7, .d (I y.2.2.2))]) (fun y => []) (fun y => loopN (fun rr x => frameSum_b1 N l1 rr x.1 x.2.1 x.2.2) y.1 y.2 = some n6) (fun y => y.1) (N, (0, (l1.length : Int), 0)) hx13 (Sub.eq rfl ?_ ?_) ?_
    · repeat ((conv => whnf); refine Need.mk rfl ?_)
      exact trivial
    · exact trivial
    · rintro ⟨n11, ⟨n10, v17, v18⟩⟩ hl2
      obtain ⟨n11, rfl, hl2⟩ := loopN_some hl2
      replace hl2 : frameSum_b1 N l1 (loopN (fun rr x => frameSum_b1 N l1 rr x.1 x.2.1 x.2.2) n11) n10 v17 v18 = some n6 := hl2
      rw [frameSum_b1] at hl2
      conv => whnf
      refine Br.mk (fun hc12 => ?_) (fun hc12 => ?_)
      · replace hl2 := ite_t hc12 hl2
        obtain ⟨x24, hx25, hl2⟩ := obind hl2
        conv => whnf
        refine Side.mk rfl ⟨_, idx_0 hx25, idx_map _ hx25, ?_⟩
        conv => whnf
        refine ⟨(n11, (w64 (n10 + x24), v17, w64 (v18 + 1))), hl2, Sub.eq rfl ?_ ?_, Nat.lt_succ_self _⟩
        · repeat ((conv => whnf); refine Need.mk rfl ?_)
          exact trivial
        · exact trivial
      · replace hl2 := ite_f hc12 hl2
        cases hl2
        conv => whnf
        refine ⟨(), trivial, Sub.eq rfl ?_ ?_⟩
        · repeat ((conv => whnf); refine Need.mk rfl ?_)
          exact trivial
        · exact trivial
  · rintro _ _
    conv => whnf
    cases h
    exact rfl

theorem frameLawTotalC {N : Nat} (hN : N ≤ 1073741824) {l1 : FrameLaw} {sheet1 : List Int} {r : Int} (h : frameLawTotal N l1 sheet1 = some r) :
    ACalls Try.prog 45 [.d (.agg [I l1.fFrames, I l1.fPins, I l1.fBalls, I l1.fTap]), .d (.list 1 (List.map I sheet1))] [] fun e os => e = .ret (.d (I r)) ∧ os = [] := by
  refine acalls_f (fresh := false) tt_ok dr_ok ⟨[2], [], [], [], [1002], 0⟩ Try.func45 rfl Try.call45 rfl ?_
  unfold frameLawTotal at h
  obtain ⟨r2, hx2, h⟩ := obind h
  conv => whnf
  refine CallG.pure _ (frameLawBeginC hN hx2) ?_
  conv => whnf
  intro b2
  conv => whnf
  refine Side.mk rfl ?_
  obtain ⟨n6, hx33, h⟩ := obind h
  conv => whnf
  refine SeqG.mk Unit (fun y => [(4, .d (I n6))]) (fun y => []) (fun _ => True) ?_ ?_
  · conv => whnf
    refine Ln.mk _ (List.length_map _) ?_
    conv => whnf
    refine LoopG.mk (Nat × (Int × Int × Int × FramePlay)) (fun y => [(4, .d (I y.2.1)), (5, .ptr 5 b2 0), (13, .d (.list 1 (List.map I sheet1))), (14, .d (I y.2.2.1)), (15, .d (I y.2.2.2.1))]) (fun y => [(5, .cells b2 [.d (I y.2.2.2.2.fLaw.fFrames), .d (I y.2.2.2.2.fLaw.fPins), .d (I y.2.2.2.2.fLaw.fBalls), .d (I y.2.2.2.2.fLaw.fTap), .d (I y.2.2.2.2.fAt.fFrame), .d (I y.2.2.2.2.fAt.fThrown), .d (I y.2.2.2.2.fAt.fStanding), .d (.bool y.2.2.2.2.fAt.fFresh), .d (I y.2.2.2.2.fAt.fNeed), .d (I y.2.2.2.2.fAt.fAfter.a0), .d (I y.2.2.2.2.fAt.fAfter.a1)])]) (fun y => loopN (fun rr x => frameLawTotal_b1 N sheet1 rr x.1 x.2.1 x.2.2.1 x.2.2.2) y.1 y.2 = some n6) (fun y => y.1) (N, (0, (sheet1.length : Int), 0, r2)) hx33 (Sub.eq rfl ?_ ?_) ?_
    · repeat ((conv => whnf); refine Need.mk rfl ?_)
      exact trivial
    · conv => whnf
      refine Need.mk (OLe.refl _) ?_
      exact trivial
    · rintro ⟨n11, ⟨n10, v17, v18, p8⟩⟩ hl2
      obtain ⟨n11, rfl, hl2⟩ := loopN_some hl2
      replace hl2 : frameLawTotal_b1 N sheet1 (loopN (fun rr x => frameLawTotal_b1 N sheet1 rr x.1 x.2.1 x.2.2.1 x.2.2.2) n11) n10 v17 v18 p8 = some n6 := hl2
      rw [frameLawTotal_b1] at hl2
      conv => whnf
      refine Br.mk (fun hc12 => ?_) (fun hc12 => ?_)
      · replace hl2 := ite_t hc12 hl2
        obtain ⟨x24, hx60, hl2⟩ := obind hl2
        conv => whnf
        refine Side.mk rfl ⟨_, idx_0 hx60, idx_map _ hx60, ?_⟩
        conv => whnf
        refine Side.mk rfl ?_
        obtain ⟨⟨ra24, rb24, rc24⟩, hx62, hl2⟩ := obind hl2
        conv => whnf
        refine CallG.pure _ (framePlayNextC hN hx62) ?_
        conv => whnf
        intro b26
        conv => whnf
        refine Side.mk rfl ?_
        obtain ⟨r14, hx63, hl2⟩ := obind hl2
        conv => whnf
        refine DrawG.mk (.take 0 (.take 1 (.take 4 (.alt 2 [4] (.alt 3 [4] (.take 5 (.alt 6 [] .done .nil)) .nil) .nil)))) (by kernel_rfl) ?_
        conv => whnf
        refine Side.mk rfl ?_
        conv => whnf
        refine Both.mk ?_ trivial
        conv => whnf
        intro hd24
        conv => whnf
        refine Side.mk rfl ?_
        conv => whnf
        refine Need.mk (AV.le_refl _) ?_
        conv => whnf
        refine Both.mk ?_ trivial
        conv => whnf
        refine Side.mk rfl ?_
        conv => whnf
        refine CallG.pure _ (frameSumC hN hx63) ?_
        conv => whnf
        refine Side.mk rfl ?_
        conv => whnf
        refine Need.mk (AV.le_refl _) ?_
        conv => whnf
        refine Both.mk ?_ trivial
        conv => whnf
        refine Side.mk rfl ?_
        conv => whnf
        refine ⟨(n11, (r14, v17, w64 (v18 + 1), ra24)), hl2, Sub.eq rfl ?_ ?_, Nat.lt_succ_self _⟩
        · repeat ((conv => whnf); refine Need.mk rfl ?_)
          exact trivial
        · conv => whnf
          refine Need.mk (OLe.refl _) ?_
          exact trivial
      · replace hl2 := ite_f hc12 hl2
        cases hl2
        conv => whnf
        refine ⟨(), trivial, Sub.eq rfl ?_ ?_⟩
        · repeat ((conv => whnf); refine Need.mk rfl ?_)
          exact trivial
        · exact trivial
  · rintro _ _
    conv => whnf
    cases h
    exact rfl

theorem frameLawBehindC {N : Nat} (hN : N ≤ 1073741824) {l1 : FrameLaw} {sheet1 : List Int} {r : FramePlay} (h : frameLawBehind N l1 sheet1 = some r) :
    ACalls Try.prog 20 [.d (.agg [I l1.fFrames, I l1.fPins, I l1.fBalls, I l1.fTap]), .d (.list 1 (List.map I sheet1))] [] fun e os => e = .ret (.d (.agg [I r.fLaw.fFrames, I r.fLaw.fPins, I r.fLaw.fBalls, I r.fLaw.fTap, I r.fAt.fFrame, I r.fAt.fThrown, I r.fAt.fStanding, .bool r.fAt.fFresh, I r.fAt.fNeed, I r.fAt.fAfter.a0, I r.fAt.fAfter.a1])) ∧ os = [] := by
  refine acalls_f (fresh := false) tt_ok dr_ok ⟨[2], [], [], [], [1002], 0⟩ Try.func20 rfl Try.call20 rfl ?_
  unfold frameLawBehind at h
  conv => whnf
  intro b2
  obtain ⟨r2, hx2, h⟩ := obind h
  conv => whnf
  refine CallG.pure _ (frameLawBeginC hN hx2) ?_
  conv => whnf
  intro b4
  conv => whnf
  refine Side.mk rfl ?_
  obtain ⟨p5, hx55, h⟩ := obind h
  conv => whnf
  refine SeqG.mk Unit (fun y => [(4, .ptr 4 b2 0), (5, .ptr 5 b4 0)]) (fun y => [(4, .cells b2 [.d (I 0), .d (I 0), .d (I 0), .d (I 0), .d (I 0), .d (I 0), .d (I 0), .d (.bool false), .d (I 0), .d (I 0), .d (I 0)]), (5, .cells b4 [.d (I p5.fLaw.fFrames), .d (I p5.fLaw.fPins), .d (I p5.fLaw.fBalls), .d (I p5.fLaw.fTap), .d (I p5.fAt.fFrame), .d (I p5.fAt.fThrown), .d (I p5.fAt.fStanding), .d (.bool p5.fAt.fFresh), .d (I p5.fAt.fNeed), .d (I p5.fAt.fAfter.a0), .d (I p5.fAt.fAfter.a1)])]) (fun _ => True) ?_ ?_
  · obtain ⟨⟨ra16, rb16⟩, hx57, hx55⟩ := obind hx55
    conv => whnf
    refine CallG.pure _ (frameLawBallsC hN hx57) ?_
    conv => whnf
    intro lp2 rc14
    refine IterG.mk _ _ ⟨[], [], [], [], [], 2000⟩ Try.func35 rfl Try.call35 rfl rfl ?_
    obtain ⟨r30, hx59, hx55⟩ := obind hx55
    conv => whnf
    refine CallG.pure _ (frameLawBeginC hN hx59) ?_
    conv => whnf
    intro b44
    conv => whnf
    refine Side.mk rfl ?_
    conv => whnf
    refine Ln.mk _ (List.length_map _) ?_
    conv => whnf
    refine LoopG.mk (Nat × (Int × Int × FramePlay × FramePlay)) (fun y => [(0, .fn (.yield lp2) [] []), (4, .ptr 2004 b44 0), (13, .d (.list 1 (List.map I rb16))), (14, .d (I y.2.1)), (15, .d (I y.2.2.1))]) (fun y => [(2004, .cells b44 [.d (I y.2.2.2.1.fLaw.fFrames), .d (I y.2.2.2.1.fLaw.fPins), .d (I y.2.2.2.1.fLaw.fBalls), .d (I y.2.2.2.1.fLaw.fTap), .d (I y.2.2.2.1.fAt.fFrame), .d (I y.2.2.2.1.fAt.fThrown), .d (I y.2.2.2.1.fAt.fStanding), .d (.bool y.2.2.2.1.fAt.fFresh), .d (I y.2.2.2.1.fAt.fNeed), .d (I y.2.2.2.1.fAt.fAfter.a0), .d (I y.2.2.2.1.fAt.fAfter.a1)]), (4, .cells b2 [.d (I 0), .d (I 0), .d (I 0), .d (I 0), .d (I 0), .d (I 0), .d (I 0), .d (.bool false), .d (I 0), .d (I 0), .d (I 0)]), (5, .cells b4 [.d (I y.2.2.2.2.fLaw.fFrames), .d (I y.2.2.2.2.fLaw.fPins), .d (I y.2.2.2.2.fLaw.fBalls), .d (I y.2.2.2.2.fLaw.fTap), .d (I y.2.2.2.2.fAt.fFrame), .d (I y.2.2.2.2.fAt.fThrown), .d (I y.2.2.2.2.fAt.fStanding), .d (.bool y.2.2.2.2.fAt.fFresh), .d (I y.2.2.2.2.fAt.fNeed), .d (I y.2.2.2.2.fAt.fAfter.a0), .d (I y.2.2.2.2.fAt.fAfter.a1)]), (1000, .loop lp2 rc14 none)]) (fun y => loopN (fun rr x => frameLawBehind_b1 N rb16 rr x.1 x.2.1 x.2.2.1 x.2.2.2) y.1 y.2 = some p5) (fun y => y.1) (N, ((rb16.length : Int), 0, r30, r2)) hx55 (Sub.eq rfl ?_ ?_) ?_
    · repeat ((conv => whnf); refine Need.mk rfl ?_)
      exact trivial
    · conv => whnf
      refine Need.mk (OLe.refl _) ?_
      conv => whnf
      refine Need.mk (OLe.refl _) ?_
      conv => whnf
      refine Need.mk (OLe.refl _) ?_
      conv => whnf
      refine Need.mk (OLe.refl _) ?_
      exact trivial
    · rintro ⟨n2, ⟨v17, v18, c8, p9⟩⟩ hl2
      obtain ⟨n2, rfl, hl2⟩ := loopN_some hl2
      replace hl2 : frameLawBehind_b1 N rb16 (loopN (fun rr x => frameLawBehind_b1 N rb16 rr x.1 x.2.1 x.2.2.1 x.2.2.2) n2) v17 v18 c8 p9 = some p5 := hl2
      rw [frameLawBehind_b1] at hl2
      conv => whnf
      refine Br.mk (fun hc32 => ?_) (fun hc32 => ?_)
      · replace hl2 := ite_t hc32 hl2
        obtain ⟨x24, hx101, hl2⟩ := obind hl2
        conv => whnf
        refine Side.mk rfl ⟨_, idx_0 hx101, idx_map _ hx101, ?_⟩
        conv => whnf
        refine Side.mk rfl ?_
        obtain ⟨r54, hx105, hl2⟩ := obind hl2
        conv => whnf
        refine CallG.pure _ (framePlayMayC hN hx105) ?_
        conv => whnf
        refine Br.mk (fun hc36 => ?_) (fun hc36 => ?_)
        · replace hl2 := ite_t hc36 hl2
          conv => whnf
          refine Side.mk ⟨rfl, rfl⟩ ?_
          cases hl2
          conv => whnf
          refine ⟨(), trivial, Sub.eq rfl ?_ ?_⟩
          · repeat ((conv => whnf); refine Need.mk rfl ?_)
            exact trivial
          · conv => whnf
            refine Need.mk (OLe.refl _) ?_
            conv => whnf
            refine Need.mk (OLe.refl _) ?_
            exact trivial
        · replace hl2 := ite_f hc36 hl2
          conv => whnf
          refine Side.mk rfl ?_
          obtain ⟨⟨ra28, rb28, rc26⟩, hx107, hl2⟩ := obind hl2
          conv => whnf
          refine CallG.pure _ (framePlayNextC hN hx107) ?_
          conv => whnf
          intro b76
          conv => whnf
          refine Side.mk rfl ?_
          conv => whnf
          refine Side.mk rfl ?_
          conv => whnf
          refine Side.mk rfl ?_
          conv => whnf
          refine Side.mk ⟨rfl, rfl, rfl⟩ ?_
          conv => whnf
          intro b80
          conv => whnf
          refine Side.mk rfl ?_
          conv => whnf
          refine Side.mk rfl ?_
          conv => whnf
          refine Side.mk rfl ?_
          conv => whnf
          refine Side.mk rfl ?_
          conv => whnf
          refine Side.mk rfl ?_
          conv => whnf
          refine ⟨(n2, (v17, w64 (v18 + 1), ra28, ra28)), hl2, Sub.eq rfl ?_ ?_, Nat.lt_succ_self _⟩
          · repeat ((conv => whnf); refine Need.mk rfl ?_)
            exact trivial
          · conv => whnf
            refine Need.mk (OLe.refl _) ?_
            conv => whnf
            refine Need.mk (OLe.refl _) ?_
            conv => whnf
            refine Need.mk (OLe.refl _) ?_
            conv => whnf
            refine Need.mk (OLe.refl _) ?_
            exact trivial
      · replace hl2 := ite_f hc32 hl2
        conv => whnf
        refine Side.mk ⟨rfl, rfl⟩ ?_
        cases hl2
        conv => whnf
        refine ⟨(), trivial, Sub.eq rfl ?_ ?_⟩
        · repeat ((conv => whnf); refine Need.mk rfl ?_)
          exact trivial
        · conv => whnf
          refine Need.mk (OLe.refl _) ?_
          conv => whnf
          refine Need.mk (OLe.refl _) ?_
          exact trivial
  · rintro _ _
    conv => whnf
    refine Side.mk rfl ?_
    conv => whnf
    refine Side.mk rfl ?_
    conv => whnf
    refine Side.mk rfl ?_
    conv => whnf
    cases h
    exact rfl

theorem framePlayLeastC {N : Nat} (hN : N ≤ 1073741824) {p1 : FramePlay} {r : Int} (h : framePlayLeast N p1 = some r) :
    ACalls Try.prog 32 [.d (.agg [I p1.fLaw.fFrames, I p1.fLaw.fPins, I p1.fLaw.fBalls, I p1.fLaw.fTap, I p1.fAt.fFrame, I p1.fAt.fThrown, I p1.fAt.fStanding, .bool p1.fAt.fFresh, I p1.fAt.fNeed, I p1.fAt.fAfter.a0, I p1.fAt.fAfter.a1])] [] fun e os => e = .ret (.d (I r)) ∧ os = [] := by
  refine acalls_f (fresh := false) tt_ok dr_ok ⟨[1], [], [], [], [], 0⟩ Try.func32 rfl Try.call32 rfl ?_
  unfold framePlayLeast at h
  conv => whnf
  cases h
  exact rfl

theorem frameLawFinalC {N : Nat} (hN : N ≤ 1073741824) {l1 : FrameLaw} {sheet1 : List Int} {r : Int} (h : frameLawFinal N l1 sheet1 = some r) :
    ACalls Try.prog 31 [.d (.agg [I l1.fFrames, I l1.fPins, I l1.fBalls, I l1.fTap]), .d (.list 1 (List.map I sheet1)), .d (.agg [.fn (.func 32) [] []])] [] fun e os => e = .ret (.d (I r)) ∧ os = [] := by
  refine acalls_f (fresh := false) tt_ok dr_ok ⟨[3, 5], [], [], [], [4, 1002], 0⟩ Try.func31 rfl Try.call31 rfl ?_
  unfold frameLawFinal at h
  obtain ⟨r2, hx2, h⟩ := obind h
  conv => whnf
  refine CallG.pure _ (frameLawTotalC hN hx2) ?_
  obtain ⟨n6, hx54, h⟩ := obind h
  conv => whnf
  refine SeqG.mk Unit (fun y => [(7, .d (I n6))]) (fun y => []) (fun _ => True) ?_ ?_
  · obtain ⟨r37, hx56, hx54⟩ := obind hx54
    conv => whnf
    refine CallG.pure _ (frameLawBehindC hN hx56) ?_
    conv => whnf
    intro b55
    conv => whnf
    refine Side.mk rfl ?_
    conv => whnf
    refine LoopG.mk (Nat × (Int × FramePlay) × Nat) (fun y => [(5, .d (.ref (.agg [.fn (.func 32) [] []]))), (7, .d (I y.2.1.1)), (8, .ptr 8 y.2.2 0)]) (fun y => [(8, .cells y.2.2 [.d (I y.2.1.2.fLaw.fFrames), .d (I y.2.1.2.fLaw.fPins), .d (I y.2.1.2.fLaw.fBalls), .d (I y.2.1.2.fLaw.fTap), .d (I y.2.1.2.fAt.fFrame), .d (I y.2.1.2.fAt.fThrown), .d (I y.2.1.2.fAt.fStanding), .d (.bool y.2.1.2.fAt.fFresh), .d (I y.2.1.2.fAt.fNeed), .d (I y.2.1.2.fAt.fAfter.a0), .d (I y.2.1.2.fAt.fAfter.a1)])]) (fun y => loopN (fun rr x => frameLawFinal_b1 N rr x.1 x.2) y.1 y.2.1 = some n6) (fun y => y.1) (N, (r2, r37), b55) hx54 (Sub.eq rfl ?_ ?_) ?_
    · repeat ((conv => whnf); refine Need.mk rfl ?_)
      exact trivial
    · conv => whnf
      refine Need.mk (OLe.refl _) ?_
      exact trivial
    · rintro ⟨n11, ⟨n10, p8⟩, bb18⟩ hl2
      obtain ⟨n11, rfl, hl2⟩ := loopN_some hl2
      replace hl2 : frameLawFinal_b1 N (loopN (fun rr x => frameLawFinal_b1 N rr x.1 x.2) n11) n10 p8 = some n6 := hl2
      rw [frameLawFinal_b1] at hl2
      conv => whnf
      refine Side.mk rfl ?_
      obtain ⟨r62, hx93, hl2⟩ := obind hl2
      conv => whnf
      refine CallG.pure _ (framePlayDoneC hN hx93) ?_
      conv => whnf
      refine Br.mk (fun hc12 => ?_) (fun hc12 => ?_)
      · replace hl2 := ite_t hc12 hl2
        obtain ⟨⟨worth12, now12⟩, hx102, hl2⟩ := obind hl2
        conv => whnf
        refine SeqG.mk Nat (fun y => [(5, .d (.ref (.agg [.fn (.func 32) [] []]))), (7, .d (I n10)), (8, .ptr 8 bb18 0), (9, .ptr 9 y 0), (11, .d (I worth12))]) (fun y => [(8, .cells bb18 [.d (I p8.fLaw.fFrames), .d (I p8.fLaw.fPins), .d (I p8.fLaw.fBalls), .d (I p8.fLaw.fTap), .d (I p8.fAt.fFrame), .d (I p8.fAt.fThrown), .d (I p8.fAt.fStanding), .d (.bool p8.fAt.fFresh), .d (I p8.fAt.fNeed), .d (I p8.fAt.fAfter.a0), .d (I p8.fAt.fAfter.a1)]), (9, .cells y [.d (I now12.fLaw.fFrames), .d (I now12.fLaw.fPins), .d (I now12.fLaw.fBalls), .d (I now12.fLaw.fTap), .d (I now12.fAt.fFrame), .d (I now12.fAt.fThrown), .d (I now12.fAt.fStanding), .d (.bool now12.fAt.fFresh), .d (I now12.fAt.fNeed), .d (I now12.fAt.fAfter.a0), .d (I now12.fAt.fAfter.a1)])]) (fun _ => True) ?_ ?_
        · obtain ⟨r67, hx103, hx102⟩ := obind hx102
          obtain ⟨⟨ra24, rb24, rc24⟩, hx104, hx102⟩ := obind hx102
          conv => whnf
          refine DrawG.mk (.take 0 (.take 1 (.take 2 (.take 3 (.alt 4 [1, 0] (.alt 5 [1] (.take 6 (.take 7 (.take 8 (.take 9 (.alt 10 [9, 8, 7, 6, 1] (.alt 11 [9, 8] (.take 12 (.take 13 .done)) .nil) .nil))))) (.alt 10 [1, 0] (.alt 5 [1] (.take 6 (.take 7 (.take 8 (.take 9 (.alt 11 [9, 8] (.take 12 (.take 13 .done)) .nil))))) .nil) .nil)) (.alt 10 [3, 2, 1, 0] (.alt 4 [1, 0] (.alt 5 [1] (.take 6 (.take 7 (.take 8 (.take 9 (.alt 11 [9, 8] (.take 12 (.take 13 .done)) .nil))))) .nil) .nil) .nil)))))) (by kernel_rfl) ?_
          conv => whnf
          refine Side.mk rfl ?_
          conv => whnf
          refine Side.mk rfl ?_
          conv => whnf
          refine Both.mk ?_ ?_
          · conv => whnf
            refine CallG.pure _ (framePlayLeastC hN hx103) ?_
            conv => whnf
            refine Need.mk (AV.le_refl _) ?_
            conv => whnf
            refine Side.mk rfl ?_
            conv => whnf
            refine Need.mk (AV.le_refl _) ?_
            conv => whnf
            refine Both.mk ?_ ?_
            · conv => whnf
              refine CallG.pure _ (framePlayNextC hN hx104) ?_
              conv => whnf
              refine Need.mk (AV.le_refl _) ?_
              conv => whnf
              refine Both.mk ?_ trivial
              conv => whnf
              intro b103
              conv => whnf
              refine Need.mk (AV.le_refl _) ?_
              conv => whnf
              refine Need.mk (AV.le_refl _) ?_
              conv => whnf
              refine Need.mk (AV.le_refl _) ?_
              conv => whnf
              refine Need.mk (AV.le_refl _) ?_
              conv => whnf
              refine Need.mk (AV.le_refl _) ?_
              conv => whnf
              refine Both.mk ?_ trivial
              conv => whnf
              refine Side.mk rfl ?_
              conv => whnf
              refine Need.mk (AV.le_refl _) ?_
              conv => whnf
              refine Need.mk (AV.le_refl _) ?_
              cases hx102
              conv => whnf
              refine ⟨b103, trivial, Sub.eq rfl ?_ ?_⟩
              · repeat ((conv => whnf); refine Need.mk rfl ?_)
                exact trivial
              · conv => whnf
                refine Need.mk (OLe.refl _) ?_
                conv => whnf
                refine Need.mk (OLe.refl _) ?_
                exact trivial
            · conv => whnf
              refine Both.mk ?_ trivial
              conv => whnf
              intro b104
              conv => whnf
              refine Need.mk (AV.le_refl _) ?_
              conv => whnf
              refine Side.mk rfl ?_
              conv => whnf
              refine Need.mk (AV.le_refl _) ?_
              conv => whnf
              refine Both.mk ?_ trivial
              conv => whnf
              refine CallG.pure _ (framePlayNextC hN hx104) ?_
              conv => whnf
              refine Need.mk (AV.le_refl _) ?_
              conv => whnf
              refine Both.mk ?_ trivial
              conv => whnf
              refine Side.mk rfl ?_
              conv => whnf
              refine Need.mk (AV.le_refl _) ?_
              conv => whnf
              refine Need.mk (AV.le_refl _) ?_
              cases hx102
              conv => whnf
              refine ⟨b104, trivial, Sub.eq rfl ?_ ?_⟩
              · repeat ((conv => whnf); refine Need.mk rfl ?_)
                exact trivial
              · conv => whnf
                refine Need.mk (OLe.refl _) ?_
                conv => whnf
                refine Need.mk (OLe.refl _) ?_
                exact trivial
          · conv => whnf
            refine Both.mk ?_ trivial
            conv => whnf
            intro b105
            conv => whnf
            refine Side.mk rfl ?_
            conv => whnf
            refine Need.mk (AV.le_refl _) ?_
            conv => whnf
            refine Need.mk (AV.le_refl _) ?_
            conv => whnf
            refine Need.mk (AV.le_refl _) ?_
            conv => whnf
            refine Side.mk rfl ?_
            conv => whnf
            refine Need.mk (AV.le_refl _) ?_
            conv => whnf
            refine Both.mk ?_ trivial
            conv => whnf
            refine CallG.pure _ (framePlayLeastC hN hx103) ?_
            conv => whnf
            refine Need.mk (AV.le_refl _) ?_
            conv => whnf
            refine Side.mk rfl ?_
            conv => whnf
            refine Need.mk (AV.le_refl _) ?_
            conv => whnf
            refine Both.mk ?_ trivial
            conv => whnf
            refine CallG.pure _ (framePlayNextC hN hx104) ?_
            conv => whnf
            refine Need.mk (AV.le_refl _) ?_
            conv => whnf
            refine Both.mk ?_ trivial
            conv => whnf
            refine Side.mk rfl ?_
            conv => whnf
            refine Need.mk (AV.le_refl _) ?_
            conv => whnf
            refine Need.mk (AV.le_refl _) ?_
            cases hx102
            conv => whnf
            refine ⟨b105, trivial, Sub.eq rfl ?_ ?_⟩
            · repeat ((conv => whnf); refine Need.mk rfl ?_)
              exact trivial
            · conv => whnf
              refine Need.mk (OLe.refl _) ?_
              conv => whnf
              refine Need.mk (OLe.refl _) ?_
              exact trivial
        · rintro bb20 _
          obtain ⟨r68, hx105, hl2⟩ := obind hl2
          conv => whnf
          refine DrawG.mk (.take 0 (.take 1 (.take 4 (.alt 2 [4] (.alt 3 [4] (.take 5 (.alt 6 [] .done .nil)) .nil) .nil)))) (by kernel_rfl) ?_
          conv => whnf
          refine Side.mk rfl ?_
          conv => whnf
          refine Both.mk ?_ trivial
          conv => whnf
          intro hd24
          conv => whnf
          refine Side.mk rfl ?_
          conv => whnf
          refine Need.mk (AV.le_refl _) ?_
          conv => whnf
          refine Both.mk ?_ trivial
          conv => whnf
          refine Side.mk rfl ?_
          conv => whnf
          refine CallG.pure _ (frameSumC hN hx105) ?_
          conv => whnf
          refine Side.mk rfl ?_
          conv => whnf
          refine Need.mk (AV.le_refl _) ?_
          conv => whnf
          refine Both.mk ?_ trivial
          conv => whnf
          refine Side.mk rfl ?_
          conv => whnf
          refine Side.mk rfl ?_
          conv => whnf
          intro b106
          conv => whnf
          refine Side.mk rfl ?_
          conv => whnf
          refine ⟨(n11, (r68, now12), b106), hl2, Sub.eq rfl ?_ ?_, Nat.lt_succ_self _⟩
          · repeat ((conv => whnf); refine Need.mk rfl ?_)
            exact trivial
          · conv => whnf
            refine Need.mk (OLe.refl _) ?_
            exact trivial
      · replace hl2 := ite_f hc12 hl2
        cases hl2
        conv => whnf
        refine ⟨(), trivial, Sub.eq rfl ?_ ?_⟩
        · repeat ((conv => whnf); refine Need.mk rfl ?_)
          exact trivial
        · exact trivial
  · rintro _ _
    conv => whnf
    cases h
    exact rfl

theorem framePlayMostC {N : Nat} (hN : N ≤ 1073741824) {p1 : FramePlay} {r : Int} (h : framePlayMost N p1 = some r) :
    ACalls Try.prog 33 [.d (.agg [I p1.fLaw.fFrames, I p1.fLaw.fPins, I p1.fLaw.fBalls, I p1.fLaw.fTap, I p1.fAt.fFrame, I p1.fAt.fThrown, I p1.fAt.fStanding, .bool p1.fAt.fFresh, I p1.fAt.fNeed, I p1.fAt.fAfter.a0, I p1.fAt.fAfter.a1])] [] fun e os => e = .ret (.d (I r)) ∧ os = [] := by
  refine acalls_f (fresh := false) tt_ok dr_ok ⟨[1], [], [], [], [], 0⟩ Try.func33 rfl Try.call33 rfl ?_
  unfold framePlayMost at h
  conv => whnf
  cases h
  exact rfl

theorem frameLawFinalXC {N : Nat} (hN : N ≤ 1073741824) {l1 : FrameLaw} {sheet1 : List Int} {r : Int} (h : frameLawFinalX N l1 sheet1 = some r) :
    ACalls Try.prog 31 [.d (.agg [I l1.fFrames, I l1.fPins, I l1.fBalls, I l1.fTap]), .d (.list 1 (List.map I sheet1)), .d (.agg [.fn (.func 33) [] []])] [] fun e os => e = .ret (.d (I r)) ∧ os = [] := by
  refine acalls_f (fresh := false) tt_ok dr_ok ⟨[3, 5], [], [], [], [4, 1002], 0⟩ Try.func31 rfl Try.call31 rfl ?_
  unfold frameLawFinalX at h
  obtain ⟨r2, hx2, h⟩ := obind h
  conv => whnf
  refine CallG.pure _ (frameLawTotalC hN hx2) ?_
  obtain ⟨n6, hx54, h⟩ := obind h
  conv => whnf
  refine SeqG.mk Unit (fun y => [(7, .d (I n6))]) (fun y => []) (fun _ => True) ?_ ?_
  · obtain ⟨r37, hx56, hx54⟩ := obind hx54
    conv => whnf
    refine CallG.pure _ (frameLawBehindC hN hx56) ?_
    conv => whnf
    intro b55
    conv => whnf
    refine Side.mk rfl ?_
    conv => whnf
    refine LoopG.mk (Nat × (Int × FramePlay) × Nat) (fun y => [(5, .d (.ref (.agg [.fn (.func 33) [] []]))), (7, .d (I y.2.1.1)), (8, .ptr 8 y.2.2 0)]) (fun y => [(8, .cells y.2.2 [.d (I y.2.1.2.fLaw.fFrames), .d (I y.2.1.2.fLaw.fPins), .d (I y.2.1.2.fLaw.fBalls), .d (I y.2.1.2.fLaw.fTap), .d (I y.2.1.2.fAt.fFrame), .d (I y.2.1.2.fAt.fThrown), .d (I y.2.1.2.fAt.fStanding), .d (.bool y.2.1.2.fAt.fFresh), .d (I y.2.1.2.fAt.fNeed), .d (I y.2.1.2.fAt.fAfter.a0), .d (I y.2.1.2.fAt.fAfter.a1)])]) (fun y => loopN (fun rr x => frameLawFinalX_b1 N rr x.1 x.2) y.1 y.2.1 = some n6) (fun y => y.1) (N, (r2, r37), b55) hx54 (Sub.eq rfl ?_ ?_) ?_
    · repeat ((conv => whnf); refine Need.mk rfl ?_)
      exact trivial
    · conv => whnf
      refine Need.mk (OLe.refl _) ?_
      exact trivial
    · rintro ⟨n11, ⟨n10, p8⟩, bb18⟩ hl2
      obtain ⟨n11, rfl, hl2⟩ := loopN_some hl2
      replace hl2 : frameLawFinalX_b1 N (loopN (fun rr x => frameLawFinalX_b1 N rr x.1 x.2) n11) n10 p8 = some n6 := hl2
      rw [frameLawFinalX_b1] at hl2
      conv => whnf
      refine Side.mk rfl ?_
      obtain ⟨r62, hx93, hl2⟩ := obind hl2
      conv => whnf
      refine CallG.pure _ (framePlayDoneC hN hx93) ?_
      conv => whnf
      refine Br.mk (fun hc12 => ?_) (fun hc12 => ?_)
      · replace hl2 := ite_t hc12 hl2
        obtain ⟨⟨worth12, now12⟩, hx102, hl2⟩ := obind hl2
        conv => whnf
        refine SeqG.mk Nat (fun y => [(5, .d (.ref (.agg [.fn (.func 33) [] []]))), (7, .d (I n10)), (8, .ptr 8 bb18 0), (9, .ptr 9 y 0), (11, .d (I worth12))]) (fun y => [(8, .cells bb18 [.d (I p8.fLaw.fFrames), .d (I p8.fLaw.fPins), .d (I p8.fLaw.fBalls), .d (I p8.fLaw.fTap), .d (I p8.fAt.fFrame), .d (I p8.fAt.fThrown), .d (I p8.fAt.fStanding), .d (.bool p8.fAt.fFresh), .d (I p8.fAt.fNeed), .d (I p8.fAt.fAfter.a0), .d (I p8.fAt.fAfter.a1)]), (9, .cells y [.d (I now12.fLaw.fFrames), .d (I now12.fLaw.fPins), .d (I now12.fLaw.fBalls), .d (I now12.fLaw.fTap), .d (I now12.fAt.fFrame), .d (I now12.fAt.fThrown), .d (I now12.fAt.fStanding), .d (.bool now12.fAt.fFresh), .d (I now12.fAt.fNeed), .d (I now12.fAt.fAfter.a0), .d (I now12.fAt.fAfter.a1)])]) (fun _ => True) ?_ ?_
        · obtain ⟨r67, hx103, hx102⟩ := obind hx102
          obtain ⟨⟨ra24, rb24, rc24⟩, hx104, hx102⟩ := obind hx102
          conv => whnf
          refine DrawG.mk (.take 0 (.take 1 (.take 2 (.take 3 (.alt 4 [1, 0] (.alt 5 [1] (.take 6 (.take 7 (.take 8 (.take 9 (.alt 10 [9, 8, 7, 6, 1] (.alt 11 [9, 8] (.take 12 (.take 13 .done)) .nil) .nil))))) (.alt 10 [1, 0] (.alt 5 [1] (.take 6 (.take 7 (.take 8 (.take 9 (.alt 11 [9, 8] (.take 12 (.take 13 .done)) .nil))))) .nil) .nil)) (.alt 10 [3, 2, 1, 0] (.alt 4 [1, 0] (.alt 5 [1] (.take 6 (.take 7 (.take 8 (.take 9 (.alt 11 [9, 8] (.take 12 (.take 13 .done)) .nil))))) .nil) .nil) .nil)))))) (by kernel_rfl) ?_
          conv => whnf
          refine Side.mk rfl ?_
          conv => whnf
          refine Side.mk rfl ?_
          conv => whnf
          refine Both.mk ?_ ?_
          · conv => whnf
            refine CallG.pure _ (framePlayMostC hN hx103) ?_
            conv => whnf
            refine Need.mk (AV.le_refl _) ?_
            conv => whnf
            refine Side.mk rfl ?_
            conv => whnf
            refine Need.mk (AV.le_refl _) ?_
            conv => whnf
            refine Both.mk ?_ ?_
            · conv => whnf
              refine CallG.pure _ (framePlayNextC hN hx104) ?_
              conv => whnf
              refine Need.mk (AV.le_refl _) ?_
              conv => whnf
              refine Both.mk ?_ trivial
              conv => whnf
              intro b103
              conv => whnf
              refine Need.mk (AV.le_refl _) ?_
              conv => whnf
              refine Need.mk (AV.le_refl _) ?_
              conv => whnf
              refine Need.mk (AV.le_refl _) ?_
              conv => whnf
              refine Need.mk (AV.le_refl _) ?_
              conv => whnf
              refine Need.mk (AV.le_refl _) ?_
              conv => whnf
              refine Both.mk ?_ trivial
              conv => whnf
              refine Side.mk rfl ?_
              conv => whnf
              refine Need.mk (AV.le_refl _) ?_
              conv => whnf
              refine Need.mk (AV.le_refl _) ?_
              cases hx102
              conv => whnf
              refine ⟨b103, trivial, Sub.eq rfl ?_ ?_⟩
              · repeat ((conv => whnf); refine Need.mk rfl ?_)
                exact trivial
              · conv => whnf
                refine Need.mk (OLe.refl _) ?_
                conv => whnf
                refine Need.mk (OLe.refl _) ?_
                exact trivial
            · conv => whnf
              refine Both.mk ?_ trivial
              conv => whnf
              intro b104
              conv => whnf
              refine Need.mk (AV.le_refl _) ?_
              conv => whnf
              refine Side.mk rfl ?_
              conv => whnf
              refine Need.mk (AV.le_refl _) ?_
              conv => whnf
              refine Both.mk ?_ trivial
              conv => whnf
              refine CallG.pure _ (framePlayNextC hN hx104) ?_
              conv => whnf
              refine Need.mk (AV.le_refl _) ?_
              conv => whnf
              refine Both.mk ?_ trivial
              conv => whnf
              refine Side.mk rfl ?_
              conv => whnf
              refine Need.mk (AV.le_refl _) ?_
              conv => whnf
              refine Need.mk (AV.le_refl _) ?_
              cases hx102
              conv => whnf
              refine ⟨b104, trivial, Sub.eq rfl ?_ ?_⟩
              · repeat ((conv => whnf); refine Need.mk rfl ?_)
                exact trivial
              · conv => whnf
                refine Need.mk (OLe.refl _) ?_
                conv => whnf
                refine Need.mk (OLe.refl _) ?_
                exact trivial
          · conv => whnf
            refine Both.mk ?_ trivial
            conv => whnf
            intro b105
            conv => whnf
            refine Side.mk rfl ?_
            conv => whnf
            refine Need.mk (AV.le_refl _) ?_
            conv => whnf
            refine Need.mk (AV.le_refl _) ?_
            conv => whnf
            refine Need.mk (AV.le_refl _) ?_
            conv => whnf
            refine Side.mk rfl ?_
            conv => whnf
            refine Need.mk (AV.le_refl _) ?_
            conv => whnf
            refine Both.mk ?_ trivial
            conv => whnf
            refine CallG.pure _ (framePlayMostC hN hx103) ?_
            conv => whnf
            refine Need.mk (AV.le_refl _) ?_
            conv => whnf
            refine Side.mk rfl ?_
            conv => whnf
            refine Need.mk (AV.le_refl _) ?_
            conv => whnf
            refine Both.mk ?_ trivial
            conv => whnf
            refine CallG.pure _ (framePlayNextC hN hx104) ?_
            conv => whnf
            refine Need.mk (AV.le_refl _) ?_
            conv => whnf
            refine Both.mk ?_ trivial
            conv => whnf
            refine Side.mk rfl ?_
            conv => whnf
            refine Need.mk (AV.le_refl _) ?_
            conv => whnf
            refine Need.mk (AV.le_refl _) ?_
            cases hx102
            conv => whnf
            refine ⟨b105, trivial, Sub.eq rfl ?_ ?_⟩
            · repeat ((conv => whnf); refine Need.mk rfl ?_)
              exact trivial
            · conv => whnf
              refine Need.mk (OLe.refl _) ?_
              conv => whnf
              refine Need.mk (OLe.refl _) ?_
              exact trivial
        · rintro bb20 _
          obtain ⟨r68, hx105, hl2⟩ := obind hl2
          conv => whnf
          refine DrawG.mk (.take 0 (.take 1 (.take 4 (.alt 2 [4] (.alt 3 [4] (.take 5 (.alt 6 [] .done .nil)) .nil) .nil)))) (by kernel_rfl) ?_
          conv => whnf
          refine Side.mk rfl ?_
          conv => whnf
          refine Both.mk ?_ trivial
          conv => whnf
          intro hd24
          conv => whnf
          refine Side.mk rfl ?_
          conv => whnf
          refine Need.mk (AV.le_refl _) ?_
          conv => whnf
          refine Both.mk ?_ trivial
          conv => whnf
          refine Side.mk rfl ?_
          conv => whnf
          refine CallG.pure _ (frameSumC hN hx105) ?_
          conv => whnf
          refine Side.mk rfl ?_
          conv => whnf
          refine Need.mk (AV.le_refl _) ?_
          conv => whnf
          refine Both.mk ?_ trivial
          conv => whnf
          refine Side.mk rfl ?_
          conv => whnf
          refine Side.mk rfl ?_
          conv => whnf
          intro b106
          conv => whnf
          refine Side.mk rfl ?_
          conv => whnf
          refine ⟨(n11, (r68, now12), b106), hl2, Sub.eq rfl ?_ ?_, Nat.lt_succ_self _⟩
          · repeat ((conv => whnf); refine Need.mk rfl ?_)
            exact trivial
          · conv => whnf
            refine Need.mk (OLe.refl _) ?_
            exact trivial
      · replace hl2 := ite_f hc12 hl2
        cases hl2
        conv => whnf
        refine ⟨(), trivial, Sub.eq rfl ?_ ?_⟩
        · repeat ((conv => whnf); refine Need.mk rfl ?_)
          exact trivial
        · exact trivial
  · rintro _ _
    conv => whnf
    cases h
    exact rfl

theorem frameLawSpanC {N : Nat} (hN : N ≤ 1073741824) {l1 : FrameLaw} {sheet1 : List Int} {r : FrameRange} (h : frameLawSpan N l1 sheet1 = some r) :
    ACalls Try.prog 17 [.d (.agg [I l1.fFrames, I l1.fPins, I l1.fBalls, I l1.fTap]), .d (.list 1 (List.map I sheet1))] [] fun e os => e = .ret (.d (.agg [I r.fLo, I r.fHi])) ∧ os = [] := by
  refine acalls_f (fresh := false) tt_ok dr_ok ⟨[2], [], [], [], [1], 0⟩ Try.func17 rfl Try.call17 rfl ?_
  unfold frameLawSpan at h
  conv => whnf
  intro b2
  obtain ⟨c1, hx3, h⟩ := obind h
  conv => whnf
  refine SeqG.mk Unit (fun y => [(4, .ptr 4 b2 0)]) (fun y => [(4, .cells b2 [.d (I c1.fLo), .d (I c1.fHi)])]) (fun _ => True) ?_ ?_
  · obtain ⟨r3, hx4, hx3⟩ := obind hx3
    obtain ⟨r4, hx5, hx3⟩ := obind hx3
    conv => whnf
    refine DrawG.mk (.take 0 (.take 1 (.take 4 (.take 5 (.alt 2 [5, 4, 1, 0] (.alt 3 [5, 4] (.alt 6 [5, 4] (.alt 7 [] (.alt 8 [] (.alt 9 [] .done .nil) .nil) .nil) .nil) (.alt 6 [5, 4, 1, 0] (.alt 3 [5, 4] (.alt 7 [] (.alt 8 [] (.alt 9 [] .done .nil) .nil) .nil) .nil) .nil)) (.alt 6 [5, 4, 1, 0] (.alt 2 [5, 4, 1, 0] (.alt 3 [5, 4] (.alt 7 [] (.alt 8 [] (.alt 9 [] .done .nil) .nil) .nil) .nil) .nil) .nil)))))) (by kernel_rfl) ?_
    conv => whnf
    refine Both.mk ?_ ?_
    · conv => whnf
      refine Need.mk (AV.le_refl _) ?_
      conv => whnf
      refine Need.mk (AV.le_refl _) ?_
      conv => whnf
      refine Need.mk (AV.le_refl _) ?_
      conv => whnf
      refine Need.mk (AV.le_refl _) ?_
      conv => whnf
      refine Both.mk ?_ ?_
      · conv => whnf
        refine CallG.pure _ (frameLawFinalC hN hx4) ?_
        conv => whnf
        refine Need.mk (AV.le_refl _) ?_
        conv => whnf
        refine Need.mk (AV.le_refl _) ?_
        conv => whnf
        refine Both.mk ?_ trivial
        conv => whnf
        refine Need.mk (AV.le_refl _) ?_
        conv => whnf
        refine Need.mk (AV.le_refl _) ?_
        conv => whnf
        refine Both.mk ?_ trivial
        conv => whnf
        refine CallG.pure _ (frameLawFinalXC hN hx5) ?_
        conv => whnf
        refine Both.mk ?_ trivial
        conv => whnf
        refine Both.mk ?_ trivial
        conv => whnf
        refine Side.mk rfl ?_
        cases hx3
        conv => whnf
        refine ⟨(), trivial, Sub.eq rfl ?_ ?_⟩
        · repeat ((conv => whnf); refine Need.mk rfl ?_)
          exact trivial
        · conv => whnf
          refine Need.mk (OLe.refl _) ?_
          exact trivial
      · conv => whnf
        refine Both.mk ?_ trivial
        conv => whnf
        refine Need.mk (AV.le_refl _) ?_
        conv => whnf
        refine Need.mk (AV.le_refl _) ?_
        conv => whnf
        refine Need.mk (AV.le_refl _) ?_
        conv => whnf
        refine Need.mk (AV.le_refl _) ?_
        conv => whnf
        refine Both.mk ?_ trivial
        conv => whnf
        refine CallG.pure _ (frameLawFinalC hN hx4) ?_
        conv => whnf
        refine Need.mk (AV.le_refl _) ?_
        conv => whnf
        refine Need.mk (AV.le_refl _) ?_
        conv => whnf
        refine Both.mk ?_ trivial
        conv => whnf
        refine CallG.pure _ (frameLawFinalXC hN hx5) ?_
        conv => whnf
        refine Both.mk ?_ trivial
        conv => whnf
        refine Both.mk ?_ trivial
        conv => whnf
        refine Side.mk rfl ?_
        cases hx3
        conv => whnf
        refine ⟨(), trivial, Sub.eq rfl ?_ ?_⟩
        · repeat ((conv => whnf); refine Need.mk rfl ?_)
          exact trivial
        · conv => whnf
          refine Need.mk (OLe.refl _) ?_
          exact trivial
    · conv => whnf
      refine Both.mk ?_ trivial
      conv => whnf
      refine Need.mk (AV.le_refl _) ?_
      conv => whnf
      refine Need.mk (AV.le_refl _) ?_
      conv => whnf
      refine Need.mk (AV.le_refl _) ?_
      conv => whnf
      refine Need.mk (AV.le_refl _) ?_
      conv => whnf
      refine Both.mk ?_ trivial
      conv => whnf
      refine Need.mk (AV.le_refl _) ?_
      conv => whnf
      refine Need.mk (AV.le_refl _) ?_
      conv => whnf
      refine Need.mk (AV.le_refl _) ?_
      conv => whnf
      refine Need.mk (AV.le_refl _) ?_
      conv => whnf
      refine Both.mk ?_ trivial
      conv => whnf
      refine CallG.pure _ (frameLawFinalC hN hx4) ?_
      conv => whnf
      refine Need.mk (AV.le_refl _) ?_
      conv => whnf
      refine Need.mk (AV.le_refl _) ?_
      conv => whnf
      refine Both.mk ?_ trivial
      conv => whnf
      refine CallG.pure _ (frameLawFinalXC hN hx5) ?_
      conv => whnf
      refine Both.mk ?_ trivial
      conv => whnf
      refine Both.mk ?_ trivial
      conv => whnf
      refine Side.mk rfl ?_
      cases hx3
      conv => whnf
      refine ⟨(), trivial, Sub.eq rfl ?_ ?_⟩
      · repeat ((conv => whnf); refine Need.mk rfl ?_)
        exact trivial
      · conv => whnf
        refine Need.mk (OLe.refl _) ?_
        exact trivial
  · rintro _ _
    conv => whnf
    refine Side.mk rfl ?_
    conv => whnf
    cases h
    exact rfl

theorem frameSpanC {N : Nat} (hN : N ≤ 1073741824) {l1 : FrameLaw} {balls1 : List Int} {r : FrameRange × Int} (h : frameSpan N l1 balls1 = some r) :
    ACalls Try.prog 7 [.d (.agg [I l1.fFrames, I l1.fPins, I l1.fBalls, I l1.fTap]), .d (.list 1 (List.map I balls1))] [] fun e os => e = .ret (.d (.tup [.agg [I r.1.fLo, I r.1.fHi], I r.2])) ∧ os = [] := by
  refine acalls_f (fresh := false) tt_ok dr_ok ⟨[2], [], [], [], [], 0⟩ Try.func7 rfl Try.call7 rfl ?_
  unfold frameSpan at h
  conv => whnf
  intro b2
  obtain ⟨r4, hx4, h⟩ := obind h
  conv => whnf
  refine CallG.pure _ (frameLawCheckC hN hx4) ?_
  conv => whnf
  refine Br.mk (fun hc2 => ?_) (fun hc2 => ?_)
  · replace h := ite_t hc2 h
    conv => whnf
    refine Side.mk rfl ?_
    conv => whnf
    refine Side.mk rfl ?_
    conv => whnf
    cases h
    exact rfl
  · replace h := ite_f hc2 h
    obtain ⟨r6, hx6, h⟩ := obind h
    conv => whnf
    refine CallG.pure _ (frameLawSpanC hN hx6) ?_
    conv => whnf
    refine Side.mk rfl ?_
    conv => whnf
    refine Side.mk rfl ?_
    conv => whnf
    cases h
    exact rfl

theorem rateWithinC {N : Nat} (hN : N ≤ 1073741824) {n1 : Int} {low1 : Int} {high1 : Int} {r : Bool} (h : rateWithin N n1 low1 high1 = some r) :
    ACalls Try.prog 48 [.d (I n1), .d (I low1), .d (I high1)] [] fun e os => e = .ret (.d (.bool r)) ∧ os = [] := by
  refine acalls_f (fresh := false) tt_ok dr_ok ⟨[], [], [], [], [1], 0⟩ Try.func48 rfl Try.call48 rfl ?_
  unfold rateWithin at h
  obtain ⟨v1, hx1, h⟩ := obind h
  conv => whnf
  refine SeqG.mk Unit (fun y => [(6, .d (.bool v1))]) (fun y => []) (fun _ => True) ?_ ?_
  · conv => whnf
    refine Br.mk (fun hc2 => ?_) (fun hc2 => ?_)
    · replace hx1 := ite_t hc2 hx1
      cases hx1
      conv => whnf
      refine ⟨(), trivial, Sub.eq rfl ?_ ?_⟩
      · repeat ((conv => whnf); refine Need.mk rfl ?_)
        exact trivial
      · exact trivial
    · replace hx1 := ite_f hc2 hx1
      cases hx1
      conv => whnf
      refine ⟨(), trivial, Sub.eq rfl ?_ ?_⟩
      · repeat ((conv => whnf); refine Need.mk rfl ?_)
        exact trivial
      · exact trivial
  · rintro _ _
    conv => whnf
    cases h
    exact rfl

theorem rateCountC {N : Nat} (hN : N ≤ 1073741824) {n1 : Int} {r : Bool} (h : rateCount N n1 = some r) :
    ACalls Try.prog 52 [.d (I n1)] [] fun e os => e = .ret (.d (.bool r)) ∧ os = [] := by
  refine acalls_f (fresh := false) tt_ok dr_ok ⟨[], [], [], [], [], 0⟩ Try.func52 rfl Try.call52 rfl ?_
  unfold rateCount at h
  obtain ⟨r2, hx2, h⟩ := obind h
  conv => whnf
  refine CallG.pure _ (rateWithinC hN hx2) ?_
  conv => whnf
  cases h
  exact rfl

theorem rateLawValidC {N : Nat} (hN : N ≤ 1073741824) {l1 : RateLaw} {r : Bool} (h : rateLawValid N l1 = some r) :
    ACalls Try.prog 50 [.d (.agg [I l1.fBase, I l1.fPercent, I l1.fCap, I l1.fLeast, I l1.fBlind])] [] fun e os => e = .ret (.d (.bool r)) ∧ os = [] := by
  refine acalls_f (fresh := false) tt_ok dr_ok ⟨[1], [], [], [], [1], 0⟩ Try.func50 rfl Try.call50 rfl ?_
  unfold rateLawValid at h
  obtain ⟨v1, hx6, h⟩ := obind h
  conv => whnf
  refine SeqG.mk Unit (fun y => [(2, .d (.bool v1))]) (fun y => []) (fun _ => True) ?_ ?_
  · obtain ⟨r6, hx7, hx6⟩ := obind hx6
    conv => whnf
    refine CallG.pure _ (rateCountC hN hx7) ?_
    conv => whnf
    refine Br.mk (fun hc5 => ?_) (fun hc5 => ?_)
    · replace hx6 := ite_t hc5 hx6
      obtain ⟨r7, hx8, hx6⟩ := obind hx6
      conv => whnf
      refine CallG.pure _ (rateWithinC hN hx8) ?_
      conv => whnf
      refine Br.mk (fun hc6 => ?_) (fun hc6 => ?_)
      · replace hx6 := ite_t hc6 hx6
        obtain ⟨r8, hx9, hx6⟩ := obind hx6
        conv => whnf
        refine CallG.pure _ (rateCountC hN hx9) ?_
        conv => whnf
        refine Br.mk (fun hc7 => ?_) (fun hc7 => ?_)
        · replace hx6 := ite_t hc7 hx6
          obtain ⟨r9, hx10, hx6⟩ := obind hx6
          conv => whnf
          refine CallG.pure _ (rateWithinC hN hx10) ?_
          conv => whnf
          refine Br.mk (fun hc8 => ?_) (fun hc8 => ?_)
          · replace hx6 := ite_t hc8 hx6
            obtain ⟨r10, hx11, hx6⟩ := obind hx6
            conv => whnf
            refine CallG.pure _ (rateCountC hN hx11) ?_
            cases hx6
            conv => whnf
            refine ⟨(), trivial, Sub.eq rfl ?_ ?_⟩
            · repeat ((conv => whnf); refine Need.mk rfl ?_)
              exact trivial
            · exact trivial
          · replace hx6 := ite_f hc8 hx6
            cases hx6
            conv => whnf
            refine ⟨(), trivial, Sub.eq rfl ?_ ?_⟩
            · repeat ((conv => whnf); refine Need.mk rfl ?_)
              exact trivial
            · exact trivial
        · replace hx6 := ite_f hc7 hx6
          cases hx6
          conv => whnf
          refine ⟨(), trivial, Sub.eq rfl ?_ ?_⟩
          · repeat ((conv => whnf); refine Need.mk rfl ?_)
            exact trivial
          · exact trivial
      · replace hx6 := ite_f hc6 hx6
        cases hx6
        conv => whnf
        refine ⟨(), trivial, Sub.eq rfl ?_ ?_⟩
        · repeat ((conv => whnf); refine Need.mk rfl ?_)
          exact trivial
        · exact trivial
    · replace hx6 := ite_f hc5 hx6
      cases hx6
      conv => whnf
      refine ⟨(), trivial, Sub.eq rfl ?_ ?_⟩
      · repeat ((conv => whnf); refine Need.mk rfl ?_)
        exact trivial
      · exact trivial
  · rintro _ _
    conv => whnf
    cases h
    exact rfl

theorem rateAll1C {N : Nat} (hN : N ≤ 1073741824) {x1 : Int} {r : Bool} (h : rateAll1 N x1 = some r) :
    ACalls Try.prog 59 [.d (I x1), .d (.ref (.agg [.fn (.func 52) [] []]))] [] fun e os => e = .ret (.d (.bool r)) ∧ os = [] := by
  refine acalls_f (fresh := false) tt_ok dr_ok ⟨[], [], [], [], [], 0⟩ Try.func59 rfl Try.call59 rfl ?_
  unfold rateAll1 at h
  obtain ⟨r2, hx2, h⟩ := obind h
  conv => whnf
  refine CallG.pure _ (rateCountC hN hx2) ?_
  conv => whnf
  cases h
  exact rfl

theorem slicesIndexFuncC {N : Nat} (hN : N ≤ 1073741824) {s1 : List Int} {r : Int} (h : slicesIndexFunc N s1 = some r) :
    ACalls Try.prog 62 [.d (.list 1 (List.map I s1)), .d (.fn (.func 59) [] [.ref (.agg [.fn (.func 52) [] []])])] [] fun e os => e = .ret (.d (I r)) ∧ os = [] := by
  refine acalls_f (fresh := false) tt_ok dr_ok ⟨[], [], [], [], [1001], 0⟩ Try.func62 rfl Try.call62 rfl ?_
  unfold slicesIndexFunc at h
  conv => whnf
  refine SeqG.mk Unit (fun y => []) (fun y => []) (fun y => slicesIndexFunc_k1 N = some r) ?_ ?_
  · conv => whnf
    refine Ln.mk _ (List.length_map _) ?_
    conv => whnf
    refine LoopG.mk (Nat × (Int × Int)) (fun y => [(0, .d (.list 1 (List.map I s1))), (1, .d (.fn (.func 59) [] [.ref (.agg [.fn (.func 52) [] []])])), (7, .d (I y.2.1)), (8, .d (I y.2.2))]) (fun y => []) (fun y => loopN (fun rr x => slicesIndexFunc_b2 N s1 rr x.1 x.2) y.1 y.2 = some r) (fun y => y.1) (N, ((s1.length : Int), 0)) h (Sub.eq rfl ?_ ?_) ?_
    · repeat ((conv => whnf); refine Need.mk rfl ?_)
      exact trivial
    · exact trivial
    · rintro ⟨n2, ⟨v17, v18⟩⟩ hl2
      obtain ⟨n2, rfl, hl2⟩ := loopN_some hl2
      replace hl2 : slicesIndexFunc_b2 N s1 (loopN (fun rr x => slicesIndexFunc_b2 N s1 rr x.1 x.2) n2) v17 v18 = some r := hl2
      rw [slicesIndexFunc_b2] at hl2
      conv => whnf
      refine Br.mk (fun hc22 => ?_) (fun hc22 => ?_)
      · replace hl2 := ite_t hc22 hl2
        obtain ⟨x24, hx47, hl2⟩ := obind hl2
        conv => whnf
        refine Side.mk rfl ⟨_, idx_0 hx47, idx_map _ hx47, ?_⟩
        obtain ⟨r24, hx48, hl2⟩ := obind hl2
        conv => whnf
        refine CallG.pure _ (rateAll1C hN hx48) ?_
        conv => whnf
        refine Br.mk (fun hc24 => ?_) (fun hc24 => ?_)
        · replace hl2 := ite_t hc24 hl2
          conv => whnf
          cases hl2
          exact rfl
        · replace hl2 := ite_f hc24 hl2
          conv => whnf
          refine ⟨(n2, (v17, w64 (v18 + 1))), hl2, Sub.eq rfl ?_ ?_, Nat.lt_succ_self _⟩
          · repeat ((conv => whnf); refine Need.mk rfl ?_)
            exact trivial
          · exact trivial
      · replace hl2 := ite_f hc22 hl2
        conv => whnf
        refine ⟨(), hl2, Sub.eq rfl ?_ ?_⟩
        · repeat ((conv => whnf); refine Need.mk rfl ?_)
          exact trivial
        · exact trivial
  · clear h
    rintro _ h
    unfold slicesIndexFunc_k1 at h
    conv => whnf
    cases h
    exact rfl

theorem slicesContainsFuncC {N : Nat} (hN : N ≤ 1073741824) {s1 : List Int} {r : Bool} (h : slicesContainsFunc N s1 = some r) :
    ACalls Try.prog 58 [.d (.list 1 (List.map I s1)), .d (.fn (.func 59) [] [.ref (.agg [.fn (.func 52) [] []])])] [] fun e os => e = .ret (.d (.bool r)) ∧ os = [] := by
  refine acalls_f (fresh := false) tt_ok dr_ok ⟨[], [], [], [], [], 0⟩ Try.func58 rfl Try.call58 rfl ?_
  unfold slicesContainsFunc at h
  obtain ⟨r2, hx2, h⟩ := obind h
  conv => whnf
  refine CallG.pure _ (slicesIndexFuncC hN hx2) ?_
  conv => whnf
  cases h
  exact rfl

theorem rateAllC {N : Nat} (hN : N ≤ 1073741824) {l1 : List Int} {r : Bool} (h : rateAll N l1 = some r) :
    ACalls Try.prog 51 [.d (.list 1 (List.map I l1)), .d (.fn (.func 52) [] [])] [] fun e os => e = .ret (.d (.bool r)) ∧ os = [] := by
  refine acalls_f (fresh := false) tt_ok dr_ok ⟨[3], [], [], [], [], 0⟩ Try.func51 rfl Try.call51 rfl ?_
  unfold rateAll at h
  obtain ⟨r2, hx2, h⟩ := obind h
  conv => whnf
  refine CallG.pure _ (slicesContainsFuncC hN hx2) ?_
  conv => whnf
  cases h
  exact rfl

theorem rateNumberC {N : Nat} (hN : N ≤ 1073741824) {n1 : Int} {r : Bool} (h : rateNumber N n1 = some r) :
    ACalls Try.prog 55 [.d (I n1)] [] fun e os => e = .ret (.d (.bool r)) ∧ os = [] := by
  refine acalls_f (fresh := false) tt_ok dr_ok ⟨[], [], [], [], [], 0⟩ Try.func55 rfl Try.call55 rfl ?_
  unfold rateNumber at h
  obtain ⟨r2, hx2, h⟩ := obind h
  conv => whnf
  refine CallG.pure _ (rateWithinC hN hx2) ?_
  conv => whnf
  cases h
  exact rfl

theorem rateBookBowlerC {N : Nat} (hN : N ≤ 1073741824) {b1 : RateBook} {n1 : Int} {r : Bool} (h : rateBookBowler N b1 n1 = some r) :
    ACalls Try.prog 40 [.d (.agg [I b1.fLaw.fBase, I b1.fLaw.fPercent, I b1.fLaw.fCap, I b1.fLaw.fLeast, I b1.fLaw.fBlind, .list 1 (List.map I b1.fBowlers), .list 6 (List.map RateSheet.enc b1.fSheets), .list 1 (List.map I b1.fWithdrawn)]), .d (I n1)] [] fun e os => e = .ret (.d (.bool r)) ∧ os = [] := by
  refine acalls_f (fresh := false) tt_ok dr_ok ⟨[2], [], [], [], [], 0⟩ Try.func40 rfl Try.call40 rfl ?_
  unfold rateBookBowler at h
  conv => whnf
  refine Ln.mk _ (List.length_map _) ?_
  obtain ⟨r2, hx2, h⟩ := obind h
  conv => whnf
  refine CallG.pure _ (rateWithinC hN hx2) ?_
  conv => whnf
  cases h
  exact rfl

theorem rateWeekC {N : Nat} (hN : N ≤ 1073741824) {n1 : Int} {r : Bool} (h : rateWeek N n1 = some r) :
    ACalls Try.prog 41 [.d (I n1)] [] fun e os => e = .ret (.d (.bool r)) ∧ os = [] := by
  refine acalls_f (fresh := false) tt_ok dr_ok ⟨[], [], [], [], [], 0⟩ Try.func41 rfl Try.call41 rfl ?_
  unfold rateWeek at h
  obtain ⟨r2, hx2, h⟩ := obind h
  conv => whnf
  refine CallG.pure _ (rateWithinC hN hx2) ?_
  conv => whnf
  cases h
  exact rfl

theorem rateBookSheetC {N : Nat} (hN : N ≤ 1073741824) {b1 : RateBook} {s1 : RateSheet} {r : Bool} (h : rateBookSheet N b1 s1 = some r) :
    ACalls Try.prog 54 [.d (.agg [I b1.fLaw.fBase, I b1.fLaw.fPercent, I b1.fLaw.fCap, I b1.fLaw.fLeast, I b1.fLaw.fBlind, .list 1 (List.map I b1.fBowlers), .list 6 (List.map RateSheet.enc b1.fSheets), .list 1 (List.map I b1.fWithdrawn)]), .d (.agg [I s1.fNumber, I s1.fBowler, I s1.fWeek, I s1.fGames.a0, I s1.fGames.a1, I s1.fGames.a2])] [] fun e os => e = .ret (.d (.bool r)) ∧ os = [] := by
  refine acalls_f (fresh := false) tt_ok dr_ok ⟨[2, 3], [], [], [], [1], 0⟩ Try.func54 rfl Try.call54 rfl ?_
  unfold rateBookSheet at h
  obtain ⟨v1, hx5, h⟩ := obind h
  conv => whnf
  refine SeqG.mk Unit (fun y => [(4, .d (.bool v1))]) (fun y => []) (fun _ => True) ?_ ?_
  · obtain ⟨r5, hx6, hx5⟩ := obind hx5
    conv => whnf
    refine CallG.pure _ (rateNumberC hN hx6) ?_
    conv => whnf
    refine Br.mk (fun hc4 => ?_) (fun hc4 => ?_)
    · replace hx5 := ite_t hc4 hx5
      obtain ⟨r6, hx7, hx5⟩ := obind hx5
      conv => whnf
      refine CallG.pure _ (rateBookBowlerC hN hx7) ?_
      conv => whnf
      refine Br.mk (fun hc5 => ?_) (fun hc5 => ?_)
      · replace hx5 := ite_t hc5 hx5
        obtain ⟨r7, hx8, hx5⟩ := obind hx5
        conv => whnf
        refine CallG.pure _ (rateWeekC hN hx8) ?_
        conv => whnf
        refine Br.mk (fun hc6 => ?_) (fun hc6 => ?_)
        · replace hx5 := ite_t hc6 hx5
          conv => whnf
          refine ArrS.mk (List.map I [s1.fGames.a0, s1.fGames.a1, s1.fGames.a2]) rfl rfl (map_cells _ fun _ => rfl) ?_
          obtain ⟨r8, hx9, hx5⟩ := obind hx5
          conv => whnf
          refine CallG.pure _ (rateAllC hN hx9) ?_
          cases hx5
          conv => whnf
          refine ⟨(), trivial, Sub.eq rfl ?_ ?_⟩
          · repeat ((conv => whnf); refine Need.mk rfl ?_)
            exact trivial
          · exact trivial
        · replace hx5 := ite_f hc6 hx5
          cases hx5
          conv => whnf
          refine ⟨(), trivial, Sub.eq rfl ?_ ?_⟩
          · repeat ((conv => whnf); refine Need.mk rfl ?_)
            exact trivial
          · exact trivial
      · replace hx5 := ite_f hc5 hx5
        cases hx5
        conv => whnf
        refine ⟨(), trivial, Sub.eq rfl ?_ ?_⟩
        · repeat ((conv => whnf); refine Need.mk rfl ?_)
          exact trivial
        · exact trivial
    · replace hx5 := ite_f hc4 hx5
      cases hx5
      conv => whnf
      refine ⟨(), trivial, Sub.eq rfl ?_ ?_⟩
      · repeat ((conv => whnf); refine Need.mk rfl ?_)
        exact trivial
      · exact trivial
  · rintro _ _
    conv => whnf
    cases h
    exact rfl

theorem rateAll1XC {N : Nat} (hN : N ≤ 1073741824) {x1 : RateSheet} {a1 : RateBook} {r : Bool} (h : rateAll1X N x1 a1 = some r) :
    ACalls Try.prog 61 [.d (.agg [I x1.fNumber, I x1.fBowler, I x1.fWeek, I x1.fGames.a0, I x1.fGames.a1, I x1.fGames.a2]), .d (.ref (.agg [.fn (.func 54) [.agg [I a1.fLaw.fBase, I a1.fLaw.fPercent, I a1.fLaw.fCap, I a1.fLaw.fLeast, I a1.fLaw.fBlind, .list 1 (List.map I a1.fBowlers), .list 6 (List.map RateSheet.enc a1.fSheets), .list 1 (List.map I a1.fWithdrawn)]] []]))] [] fun e os => e = .ret (.d (.bool r)) ∧ os = [] := by
  refine acalls_f (fresh := false) tt_ok dr_ok ⟨[2], [], [], [], [], 0⟩ Try.func61 rfl Try.call61 rfl ?_
  unfold rateAll1X at h
  obtain ⟨r2, hx2, h⟩ := obind h
  conv => whnf
  refine CallG.pure _ (rateBookSheetC hN hx2) ?_
  conv => whnf
  cases h
  exact rfl

theorem slicesIndexFuncXC {N : Nat} (hN : N ≤ 1073741824) {s1 : List RateSheet} {f1 : RateBook} {r : Int} (h : slicesIndexFuncX N s1 f1 = some r) :
    ACalls Try.prog 63 [.d (.list 6 (List.map RateSheet.enc s1)), .d (.fn (.func 61) [] [.ref (.agg [.fn (.func 54) [.agg [I f1.fLaw.fBase, I f1.fLaw.fPercent, I f1.fLaw.fCap, I f1.fLaw.fLeast, I f1.fLaw.fBlind, .list 1 (List.map I f1.fBowlers), .list 6 (List.map RateSheet.enc f1.fSheets), .list 1 (List.map I f1.fWithdrawn)]] []])])] [] fun e os => e = .ret (.d (I r)) ∧ os = [] := by
  refine acalls_f (fresh := false) tt_ok dr_ok ⟨[], [], [], [], [1001], 0⟩ Try.func63 rfl Try.call63 rfl ?_
  unfold slicesIndexFuncX at h
  conv => whnf
  refine SeqG.mk Unit (fun y => []) (fun y => []) (fun y => slicesIndexFuncX_k1 N = some r) ?_ ?_
  · conv => whnf
    refine Ln.mk _ (List.length_map _) ?_
    conv => whnf
    refine LoopG.mk (Nat × (Int × Int)) (fun y => [(0, .d (.list 6 (List.map RateSheet.enc s1))), (1, .d (.fn (.func 61) [] [.ref (.agg [.fn (.func 54) [.agg [I f1.fLaw.fBase, I f1.fLaw.fPercent, I f1.fLaw.fCap, I f1.fLaw.fLeast, I f1.fLaw.fBlind, .list 1 (List.map I f1.fBowlers), .list 6 (List.map RateSheet.enc f1.fSheets), .list 1 (List.map I f1.fWithdrawn)]] []])])), (7, .d (I y.2.1)), (8, .d (I y.2.2))]) (fun y => []) (fun y => loopN (fun rr x => slicesIndexFuncX_b2 N s1 f1 rr x.1 x.2) y.1 y.2 = some r) (fun y => y.1) (N, ((s1.length : Int), 0)) h (Sub.eq rfl ?_ ?_) ?_
    · repeat ((conv => whnf); refine Need.mk rfl ?_)
      exact trivial
    · exact trivial
    · rintro ⟨n2, ⟨v17, v18⟩⟩ hl2
      obtain ⟨n2, rfl, hl2⟩ := loopN_some hl2
      replace hl2 : slicesIndexFuncX_b2 N s1 f1 (loopN (fun rr x => slicesIndexFuncX_b2 N s1 f1 rr x.1 x.2) n2) v17 v18 = some r := hl2
      rw [slicesIndexFuncX_b2] at hl2
      conv => whnf
      refine Br.mk (fun hc22 => ?_) (fun hc22 => ?_)
      · replace hl2 := ite_t hc22 hl2
        obtain ⟨x24, hx47, hl2⟩ := obind hl2
        conv => whnf
        refine Side.mk rfl ⟨_, idx_0 hx47, idx_map _ hx47, ?_⟩
        obtain ⟨r24, hx48, hl2⟩ := obind hl2
        conv => whnf
        refine CallG.pure _ (rateAll1XC hN hx48) ?_
        conv => whnf
        refine Br.mk (fun hc24 => ?_) (fun hc24 => ?_)
        · replace hl2 := ite_t hc24 hl2
          conv => whnf
          cases hl2
          exact rfl
        · replace hl2 := ite_f hc24 hl2
          conv => whnf
          refine ⟨(n2, (v17, w64 (v18 + 1))), hl2, Sub.eq rfl ?_ ?_, Nat.lt_succ_self _⟩
          · repeat ((conv => whnf); refine Need.mk rfl ?_)
            exact trivial
          · exact trivial
      · replace hl2 := ite_f hc22 hl2
        conv => whnf
        refine ⟨(), hl2, Sub.eq rfl ?_ ?_⟩
        · repeat ((conv => whnf); refine Need.mk rfl ?_)
          exact trivial
        · exact trivial
  · clear h
    rintro _ h
    unfold slicesIndexFuncX_k1 at h
    conv => whnf
    cases h
    exact rfl

theorem slicesContainsFuncXC {N : Nat} (hN : N ≤ 1073741824) {s1 : List RateSheet} {f1 : RateBook} {r : Bool} (h : slicesContainsFuncX N s1 f1 = some r) :
    ACalls Try.prog 60 [.d (.list 6 (List.map RateSheet.enc s1)), .d (.fn (.func 61) [] [.ref (.agg [.fn (.func 54) [.agg [I f1.fLaw.fBase, I f1.fLaw.fPercent, I f1.fLaw.fCap, I f1.fLaw.fLeast, I f1.fLaw.fBlind, .list 1 (List.map I f1.fBowlers), .list 6 (List.map RateSheet.enc f1.fSheets), .list 1 (List.map I f1.fWithdrawn)]] []])])] [] fun e os => e = .ret (.d (.bool r)) ∧ os = [] := by
  refine acalls_f (fresh := false) tt_ok dr_ok ⟨[], [], [], [], [], 0⟩ Try.func60 rfl Try.call60 rfl ?_
  unfold slicesContainsFuncX at h
  obtain ⟨r2, hx2, h⟩ := obind h
  conv => whnf
  refine CallG.pure _ (slicesIndexFuncXC hN hx2) ?_
  conv => whnf
  cases h
  exact rfl

theorem rateAllXC {N : Nat} (hN : N ≤ 1073741824) {l1 : List RateSheet} {right1 : RateBook} {r : Bool} (h : rateAllX N l1 right1 = some r) :
    ACalls Try.prog 53 [.d (.list 6 (List.map RateSheet.enc l1)), .d (.fn (.func 54) [.agg [I right1.fLaw.fBase, I right1.fLaw.fPercent, I right1.fLaw.fCap, I right1.fLaw.fLeast, I right1.fLaw.fBlind, .list 1 (List.map I right1.fBowlers), .list 6 (List.map RateSheet.enc right1.fSheets), .list 1 (List.map I right1.fWithdrawn)]] [])] [] fun e os => e = .ret (.d (.bool r)) ∧ os = [] := by
  refine acalls_f (fresh := false) tt_ok dr_ok ⟨[3], [], [], [], [], 0⟩ Try.func53 rfl Try.call53 rfl ?_
  unfold rateAllX at h
  obtain ⟨r2, hx2, h⟩ := obind h
  conv => whnf
  refine CallG.pure _ (slicesContainsFuncXC hN hx2) ?_
  conv => whnf
  cases h
  exact rfl

theorem rateAll1XXC {N : Nat} (hN : N ≤ 1073741824) {x1 : Int} {r : Bool} (h : rateAll1XX N x1 = some r) :
    ACalls Try.prog 59 [.d (I x1), .d (.ref (.agg [.fn (.func 55) [] []]))] [] fun e os => e = .ret (.d (.bool r)) ∧ os = [] := by
  refine acalls_f (fresh := false) tt_ok dr_ok ⟨[], [], [], [], [], 0⟩ Try.func59 rfl Try.call59 rfl ?_
  unfold rateAll1XX at h
  obtain ⟨r2, hx2, h⟩ := obind h
  conv => whnf
  refine CallG.pure _ (rateNumberC hN hx2) ?_
  conv => whnf
  cases h
  exact rfl

theorem slicesIndexFuncXXC {N : Nat} (hN : N ≤ 1073741824) {s1 : List Int} {r : Int} (h : slicesIndexFuncXX N s1 = some r) :
    ACalls Try.prog 62 [.d (.list 1 (List.map I s1)), .d (.fn (.func 59) [] [.ref (.agg [.fn (.func 55) [] []])])] [] fun e os => e = .ret (.d (I r)) ∧ os = [] := by
  refine acalls_f (fresh := false) tt_ok dr_ok ⟨[], [], [], [], [1001], 0⟩ Try.func62 rfl Try.call62 rfl ?_
  unfold slicesIndexFuncXX at h
  conv => whnf
  refine SeqG.mk Unit (fun y => []) (fun y => []) (fun y => slicesIndexFuncXX_k1 N = some r) ?_ ?_
  · conv => whnf
    refine Ln.mk _ (List.length_map _) ?_
    conv => whnf
    refine LoopG.mk (Nat × (Int × Int)) (fun y => [(0, .d (.list 1 (List.map I s1))), (1, .d (.fn (.func 59) [] [.ref (.agg [.fn (.func 55) [] []])])), (7, .d (I y.2.1)), (8, .d (I y.2.2))]) (fun y => []) (fun y => loopN (fun rr x => slicesIndexFuncXX_b2 N s1 rr x.1 x.2) y.1 y.2 = some r) (fun y => y.1) (N, ((s1.length : Int), 0)) h (Sub.eq rfl ?_ ?_) ?_
    · repeat ((conv => whnf); refine Need.mk rfl ?_)
      exact trivial
    · exact trivial
    · rintro ⟨n2, ⟨v17, v18⟩⟩ hl2
      obtain ⟨n2, rfl, hl2⟩ := loopN_some hl2
      replace hl2 : slicesIndexFuncXX_b2 N s1 (loopN (fun rr x => slicesIndexFuncXX_b2 N s1 rr x.1 x.2) n2) v17 v18 = some r := hl2
      rw [slicesIndexFuncXX_b2] at hl2
      conv => whnf
      refine Br.mk (fun hc22 => ?_) (fun hc22 => ?_)
      · replace hl2 := ite_t hc22 hl2
        obtain ⟨x24, hx47, hl2⟩ := obind hl2
        conv => whnf
        refine Side.mk rfl ⟨_, idx_0 hx47, idx_map _ hx47, ?_⟩
        obtain ⟨r24, hx48, hl2⟩ := obind hl2
        conv => whnf
        refine CallG.pure _ (rateAll1XXC hN hx48) ?_
        conv => whnf
        refine Br.mk (fun hc24 => ?_) (fun hc24 => ?_)
        · replace hl2 := ite_t hc24 hl2
          conv => whnf
          cases hl2
          exact rfl
        · replace hl2 := ite_f hc24 hl2
          conv => whnf
          refine ⟨(n2, (v17, w64 (v18 + 1))), hl2, Sub.eq rfl ?_ ?_, Nat.lt_succ_self _⟩
          · repeat ((conv => whnf); refine Need.mk rfl ?_)
            exact trivial
          · exact trivial
      · replace hl2 := ite_f hc22 hl2
        conv => whnf
        refine ⟨(), hl2, Sub.eq rfl ?_ ?_⟩
        · repeat ((conv => whnf); refine Need.mk rfl ?_)
          exact trivial
        · exact trivial
  · clear h
    rintro _ h
    unfold slicesIndexFuncXX_k1 at h
    conv => whnf
    cases h
    exact rfl

theorem slicesContainsFuncXXC {N : Nat} (hN : N ≤ 1073741824) {s1 : List Int} {r : Bool} (h : slicesContainsFuncXX N s1 = some r) :
    ACalls Try.prog 58 [.d (.list 1 (List.map I s1)), .d (.fn (.func 59) [] [.ref (.agg [.fn (.func 55) [] []])])] [] fun e os => e = .ret (.d (.bool r)) ∧ os = [] := by
  refine acalls_f (fresh := false) tt_ok dr_ok ⟨[], [], [], [], [], 0⟩ Try.func58 rfl Try.call58 rfl ?_
  unfold slicesContainsFuncXX at h
  obtain ⟨r2, hx2, h⟩ := obind h
  conv => whnf
  refine CallG.pure _ (slicesIndexFuncXXC hN hx2) ?_
  conv => whnf
  cases h
  exact rfl

theorem rateAllXXC {N : Nat} (hN : N ≤ 1073741824) {l1 : List Int} {r : Bool} (h : rateAllXX N l1 = some r) :
    ACalls Try.prog 51 [.d (.list 1 (List.map I l1)), .d (.fn (.func 55) [] [])] [] fun e os => e = .ret (.d (.bool r)) ∧ os = [] := by
  refine acalls_f (fresh := false) tt_ok dr_ok ⟨[3], [], [], [], [], 0⟩ Try.func51 rfl Try.call51 rfl ?_
  unfold rateAllXX at h
  obtain ⟨r2, hx2, h⟩ := obind h
  conv => whnf
  refine CallG.pure _ (slicesContainsFuncXXC hN hx2) ?_
  conv => whnf
  cases h
  exact rfl

theorem rateRisingC {N : Nat} (hN : N ≤ 1073741824) {l1 : List Int} {r : Bool} (h : rateRising N l1 = some r) :
    ACalls Try.prog 56 [.d (.list 1 (List.map I l1))] [] fun e os => e = .ret (.d (.bool r)) ∧ os = [] := by
  refine acalls_f (fresh := false) tt_ok dr_ok ⟨[], [], [], [], [4, 1001], 0⟩ Try.func56 rfl Try.call56 rfl ?_
  unfold rateRising at h
  conv => whnf
  refine SeqG.mk Unit (fun y => []) (fun y => []) (fun y => rateRising_k1 N = some r) ?_ ?_
  · conv => whnf
    refine Ln.mk _ (List.length_map _) ?_
    conv => whnf
    refine LoopG.mk (Nat × (Int × Int)) (fun y => [(0, .d (.list 1 (List.map I l1))), (5, .d (I y.2.1)), (6, .d (I y.2.2))]) (fun y => []) (fun y => loopN (fun rr x => rateRising_b2 N l1 rr x.1 x.2) y.1 y.2 = some r) (fun y => y.1) (N, ((l1.length : Int), 0)) h (Sub.eq rfl ?_ ?_) ?_
    · repeat ((conv => whnf); refine Need.mk rfl ?_)
      exact trivial
    · exact trivial
    · rintro ⟨n2, ⟨v23, v24⟩⟩ hl2
      obtain ⟨n2, rfl, hl2⟩ := loopN_some hl2
      replace hl2 : rateRising_b2 N l1 (loopN (fun rr x => rateRising_b2 N l1 rr x.1 x.2) n2) v23 v24 = some r := hl2
      rw [rateRising_b2] at hl2
      conv => whnf
      refine Br.mk (fun hc30 => ?_) (fun hc30 => ?_)
      · replace hl2 := ite_t hc30 hl2
        obtain ⟨v26, hx42, hl2⟩ := obind hl2
        conv => whnf
        refine SeqG.mk Unit (fun y => [(0, .d (.list 1 (List.map I l1))), (5, .d (I v23)), (6, .d (I v24)), (22, .d (.bool v26))]) (fun y => []) (fun _ => True) ?_ ?_
        · conv => whnf
          refine DrawG.mk (.take 0 (.take 1 (.take 2 (.spl 11 (.take 3 (.take 4 (.take 5 (.take 6 (.take 7 (.take 8 (.take 9 (.take 10 (.take 11 (.take 12 (.take 13 .done))))))))))))))) (by kernel_rfl) ?_
          conv => whnf
          refine Br.mk (fun hc35 => ?_) (fun hc35 => ?_)
          · replace hx42 := ite_t hc35 hx42
            obtain ⟨x31, hx43, hx42⟩ := obind hx42
            obtain ⟨x32, hx44, hx42⟩ := obind hx42
            conv => whnf
            refine Side.mk rfl ⟨_, idx_0 hx43, idx_map _ hx43, ?_⟩
            conv => whnf
            refine Side.mk rfl ⟨_, idx_0 hx44, idx_map _ hx44, ?_⟩
            cases hx42
            conv => whnf
            refine ⟨(), trivial, Sub.eq rfl ?_ ?_⟩
            · repeat ((conv => whnf); refine Need.mk rfl ?_)
              exact trivial
            · exact trivial
          · replace hx42 := ite_f hc35 hx42
            cases hx42
            conv => whnf
            refine ⟨(), trivial, Sub.eq rfl ?_ ?_⟩
            · repeat ((conv => whnf); refine Need.mk rfl ?_)
              exact trivial
            · exact trivial
        · rintro _ _
          conv => whnf
          refine Br.mk (fun hc36 => ?_) (fun hc36 => ?_)
          · replace hl2 := ite_t hc36 hl2
            conv => whnf
            cases hl2
            exact rfl
          · replace hl2 := ite_f hc36 hl2
            conv => whnf
            refine ⟨(n2, (v23, w64 (v24 + 1))), hl2, Sub.eq rfl ?_ ?_, Nat.lt_succ_self _⟩
            · repeat ((conv => whnf); refine Need.mk rfl ?_)
              exact trivial
            · exact trivial
      · replace hl2 := ite_f hc30 hl2
        conv => whnf
        refine ⟨(), hl2, Sub.eq rfl ?_ ?_⟩
        · repeat ((conv => whnf); refine Need.mk rfl ?_)
          exact trivial
        · exact trivial
  · clear h
    rintro _ h
    unfold rateRising_k1 at h
    conv => whnf
    cases h
    exact rfl

theorem rateCheckBookC {N : Nat} (hN : N ≤ 1073741824) {a1 : RateBook} {r : Int} (h : rateCheckBook N a1 = some r) :
    ACalls Try.prog 46 [.d (.agg [I a1.fLaw.fBase, I a1.fLaw.fPercent, I a1.fLaw.fCap, I a1.fLaw.fLeast, I a1.fLaw.fBlind, .list 1 (List.map I a1.fBowlers), .list 6 (List.map RateSheet.enc a1.fSheets), .list 1 (List.map I a1.fWithdrawn)])] [] fun e os => e = .ret (.d (I r)) ∧ os = [] := by
  refine acalls_f (fresh := false) tt_ok dr_ok ⟨[1], [], [], [], [1, 3, 11, 1005, 1007], 0⟩ Try.func46 rfl Try.call46 rfl ?_
  unfold rateCheckBook at h
  obtain ⟨v3, hx13, h⟩ := obind h
  conv => whnf
  refine SeqG.mk Unit (fun y => [(1, .d (.ref (.agg [I a1.fLaw.fBase, I a1.fLaw.fPercent, I a1.fLaw.fCap, I a1.fLaw.fLeast, I a1.fLaw.fBlind, .list 1 (List.map I a1.fBowlers), .list 6 (List.map RateSheet.enc a1.fSheets), .list 1 (List.map I a1.fWithdrawn)]))), (7, .d (.bool v3))]) (fun y => []) (fun _ => True) ?_ ?_
  · conv => whnf
    refine Ln.mk _ (List.length_map _) ?_
    conv => whnf
    refine Br.mk (fun hc17 => ?_) (fun hc17 => ?_)
    · replace hx13 := ite_f hc17 hx13
      conv => whnf
      refine Ln.mk _ (List.length_map _) ?_
      conv => whnf
      refine Br.mk (fun hc18 => ?_) (fun hc18 => ?_)
      · replace hx13 := ite_f hc18 hx13
        conv => whnf
        refine Ln.mk _ (List.length_map _) ?_
        cases hx13
        conv => whnf
        refine ⟨(), trivial, Sub.eq rfl ?_ ?_⟩
        · repeat ((conv => whnf); refine Need.mk rfl ?_)
          exact trivial
        · exact trivial
      · replace hx13 := ite_t hc18 hx13
        cases hx13
        conv => whnf
        refine ⟨(), trivial, Sub.eq rfl ?_ ?_⟩
        · repeat ((conv => whnf); refine Need.mk rfl ?_)
          exact trivial
        · exact trivial
    · replace hx13 := ite_t hc17 hx13
      cases hx13
      conv => whnf
      refine ⟨(), trivial, Sub.eq rfl ?_ ?_⟩
      · repeat ((conv => whnf); refine Need.mk rfl ?_)
        exact trivial
      · exact trivial
  · rintro _ _
    conv => whnf
    refine Br.mk (fun hc19 => ?_) (fun hc19 => ?_)
    · replace h := ite_t hc19 h
      conv => whnf
      cases h
      exact rfl
    · replace h := ite_f hc19 h
      obtain ⟨v4, hx19, h⟩ := obind h
      conv => whnf
      refine SeqG.mk Unit (fun y => [(1, .d (.ref (.agg [I a1.fLaw.fBase, I a1.fLaw.fPercent, I a1.fLaw.fCap, I a1.fLaw.fLeast, I a1.fLaw.fBlind, .list 1 (List.map I a1.fBowlers), .list 6 (List.map RateSheet.enc a1.fSheets), .list 1 (List.map I a1.fWithdrawn)]))), (24, .d (.bool v4))]) (fun y => []) (fun _ => True) ?_ ?_
      · obtain ⟨r16, hx20, hx19⟩ := obind hx19
        conv => whnf
        refine CallG.pure _ (rateLawValidC hN hx20) ?_
        conv => whnf
        refine Br.mk (fun hc24 => ?_) (fun hc24 => ?_)
        · replace hx19 := ite_f hc24 hx19
          obtain ⟨r17, hx21, hx19⟩ := obind hx19
          conv => whnf
          refine CallG.pure _ (rateAllC hN hx21) ?_
          conv => whnf
          refine Br.mk (fun hc25 => ?_) (fun hc25 => ?_)
          · replace hx19 := ite_f hc25 hx19
            obtain ⟨r18, hx22, hx19⟩ := obind hx19
            conv => whnf
            refine CallG.pure _ (rateAllXC hN hx22) ?_
            conv => whnf
            refine Br.mk (fun hc26 => ?_) (fun hc26 => ?_)
            · replace hx19 := ite_f hc26 hx19
              obtain ⟨r19, hx23, hx19⟩ := obind hx19
              conv => whnf
              refine CallG.pure _ (rateAllXXC hN hx23) ?_
              conv => whnf
              refine Br.mk (fun hc27 => ?_) (fun hc27 => ?_)
              · replace hx19 := ite_f hc27 hx19
                obtain ⟨r20, hx24, hx19⟩ := obind hx19
                conv => whnf
                refine CallG.pure _ (rateRisingC hN hx24) ?_
                cases hx19
                conv => whnf
                refine ⟨(), trivial, Sub.eq rfl ?_ ?_⟩
                · repeat ((conv => whnf); refine Need.mk rfl ?_)
                  exact trivial
                · exact trivial
              · replace hx19 := ite_t hc27 hx19
                cases hx19
                conv => whnf
                refine ⟨(), trivial, Sub.eq rfl ?_ ?_⟩
                · repeat ((conv => whnf); refine Need.mk rfl ?_)
                  exact trivial
                · exact trivial
            · replace hx19 := ite_t hc26 hx19
              cases hx19
              conv => whnf
              refine ⟨(), trivial, Sub.eq rfl ?_ ?_⟩
              · repeat ((conv => whnf); refine Need.mk rfl ?_)
                exact trivial
              · exact trivial
          · replace hx19 := ite_t hc25 hx19
            cases hx19
            conv => whnf
            refine ⟨(), trivial, Sub.eq rfl ?_ ?_⟩
            · repeat ((conv => whnf); refine Need.mk rfl ?_)
              exact trivial
            · exact trivial
        · replace hx19 := ite_t hc24 hx19
          cases hx19
          conv => whnf
          refine ⟨(), trivial, Sub.eq rfl ?_ ?_⟩
          · repeat ((conv => whnf); refine Need.mk rfl ?_)
            exact trivial
          · exact trivial
      · rintro _ _
        conv => whnf
        refine Br.mk (fun hc28 => ?_) (fun hc28 => ?_)
        · replace h := ite_t hc28 h
          conv => whnf
          cases h
          exact rfl
        · replace h := ite_f hc28 h
          conv => whnf
          refine SeqG.mk Unit (fun y => []) (fun y => []) (fun y => rateCheckBook_k1 N = some r) ?_ ?_
          · conv => whnf
            refine Ln.mk _ (List.length_map _) ?_
            conv => whnf
            refine LoopG.mk (Nat × (Int × Int)) (fun y => [(1, .d (.ref (.agg [I a1.fLaw.fBase, I a1.fLaw.fPercent, I a1.fLaw.fCap, I a1.fLaw.fLeast, I a1.fLaw.fBlind, .list 1 (List.map I a1.fBowlers), .list 6 (List.map RateSheet.enc a1.fSheets), .list 1 (List.map I a1.fWithdrawn)]))), (56, .d (.list 6 (List.map RateSheet.enc a1.fSheets))), (57, .d (I y.2.1)), (58, .d (I y.2.2))]) (fun y => []) (fun y => loopN (fun rr x => rateCheckBook_b4 N a1 rr x.1 x.2) y.1 y.2 = some r) (fun y => y.1) (N, ((a1.fSheets.length : Int), 0)) h (Sub.eq rfl ?_ ?_) ?_
            · repeat ((conv => whnf); refine Need.mk rfl ?_)
              exact trivial
            · exact trivial
            · rintro ⟨n12, ⟨v171, v172⟩⟩ hl12
              obtain ⟨n12, rfl, hl12⟩ := loopN_some hl12
              replace hl12 : rateCheckBook_b4 N a1 (loopN (fun rr x => rateCheckBook_b4 N a1 rr x.1 x.2) n12) v171 v172 = some r := hl12
              rw [rateCheckBook_b4] at hl12
              conv => whnf
              refine Br.mk (fun hc520 => ?_) (fun hc520 => ?_)
              · replace hl12 := ite_t hc520 hl12
                conv => whnf
                refine SeqG.mk Unit (fun y => [(1, .d (.ref (.agg [I a1.fLaw.fBase, I a1.fLaw.fPercent, I a1.fLaw.fCap, I a1.fLaw.fLeast, I a1.fLaw.fBlind, .list 1 (List.map I a1.fBowlers), .list 6 (List.map RateSheet.enc a1.fSheets), .list 1 (List.map I a1.fWithdrawn)]))), (56, .d (.list 6 (List.map RateSheet.enc a1.fSheets))), (57, .d (I v171)), (58, .d (I v172))]) (fun y => []) (fun y => rateCheckBook_k2 N v171 v172 (loopN (fun rr x => rateCheckBook_b4 N a1 rr x.1 x.2) n12) = some r) ?_ ?_
                · obtain ⟨x156, hx268, hl12⟩ := obind hl12
                  conv => whnf
                  refine Side.mk rfl ⟨_, idx_0 hx268, idx_map _ hx268, ?_⟩
                  conv => whnf
                  intro b156
                  conv => whnf
                  refine Side.mk rfl ?_
                  obtain ⟨l24, hx270, hl12⟩ := obind hl12
                  conv => whnf
                  refine Need.mk (slc_need _ hx270) (Eqv.mk (List.map RateSheet.enc l24) (slc_map _ hx270) ?_)
                  conv => whnf
                  refine Ln.mk _ (List.length_map _) ?_
                  conv => whnf
                  refine LoopG.mk (Nat × (Int × Int)) (fun y => [(1, .d (.ref (.agg [I a1.fLaw.fBase, I a1.fLaw.fPercent, I a1.fLaw.fCap, I a1.fLaw.fLeast, I a1.fLaw.fBlind, .list 1 (List.map I a1.fBowlers), .list 6 (List.map RateSheet.enc a1.fSheets), .list 1 (List.map I a1.fWithdrawn)]))), (4, .ptr 4 b156 0), (56, .d (.list 6 (List.map RateSheet.enc a1.fSheets))), (57, .d (I v171)), (58, .d (I v172)), (66, .d (.list 6 (List.map RateSheet.enc l24))), (67, .d (I y.2.1)), (68, .d (I y.2.2))]) (fun y => [(4, .cells b156 [.d (I x156.fNumber), .d (I x156.fBowler), .d (I x156.fWeek), .d (I x156.fGames.a0), .d (I x156.fGames.a1), .d (I x156.fGames.a2)])]) (fun y => loopN (fun rr x => rateCheckBook_b3 N v171 v172 (loopN (fun rr x => rateCheckBook_b4 N a1 rr x.1 x.2) n12) x156 l24 rr x.1 x.2) y.1 y.2 = some r) (fun y => y.1) (N, ((l24.length : Int), 0)) hl12 (Sub.eq rfl ?_ ?_) ?_
                  · repeat ((conv => whnf); refine Need.mk rfl ?_)
                    exact trivial
                  · conv => whnf
                    refine Need.mk (OLe.refl _) ?_
                    exact trivial
                  · rintro ⟨n14, ⟨v199, v200⟩⟩ hl14
                    obtain ⟨n14, rfl, hl14⟩ := loopN_some hl14
                    replace hl14 : rateCheckBook_b3 N v171 v172 (loopN (fun rr x => rateCheckBook_b4 N a1 rr x.1 x.2) n12) x156 l24 (loopN (fun rr x => rateCheckBook_b3 N v171 v172 (loopN (fun rr x => rateCheckBook_b4 N a1 rr x.1 x.2) n12) x156 l24 rr x.1 x.2) n14) v199 v200 = some r := hl14
                    rw [rateCheckBook_b3] at hl14
                    conv => whnf
                    refine Br.mk (fun hc602 => ?_) (fun hc602 => ?_)
                    · replace hl14 := ite_t hc602 hl14
                      obtain ⟨x168, hx287, hl14⟩ := obind hl14
                      conv => whnf
                      refine Side.mk rfl ⟨_, idx_0 hx287, idx_map _ hx287, ?_⟩
                      conv => whnf
                      intro b168
                      conv => whnf
                      refine Side.mk rfl ?_
                      obtain ⟨v202, hx288, hl14⟩ := obind hl14
                      conv => whnf
                      refine SeqG.mk Unit (fun y => [(1, .d (.ref (.agg [I a1.fLaw.fBase, I a1.fLaw.fPercent, I a1.fLaw.fCap, I a1.fLaw.fLeast, I a1.fLaw.fBlind, .list 1 (List.map I a1.fBowlers), .list 6 (List.map RateSheet.enc a1.fSheets), .list 1 (List.map I a1.fWithdrawn)]))), (4, .ptr 4 b156 0), (56, .d (.list 6 (List.map RateSheet.enc a1.fSheets))), (57, .d (I v171)), (58, .d (I v172)), (66, .d (.list 6 (List.map RateSheet.enc l24))), (67, .d (I v199)), (68, .d (I v200)), (97, .d (.bool v202))]) (fun y => [(4, .cells b156 [.d (I x156.fNumber), .d (I x156.fBowler), .d (I x156.fWeek), .d (I x156.fGames.a0), .d (I x156.fGames.a1), .d (I x156.fGames.a2)])]) (fun _ => True) ?_ ?_
                      · conv => whnf
                        refine Side.mk rfl ?_
                        conv => whnf
                        refine Side.mk rfl ?_
                        conv => whnf
                        refine Br.mk (fun hc613 => ?_) (fun hc613 => ?_)
                        · replace hx288 := ite_t hc613 hx288
                          conv => whnf
                          refine Side.mk rfl ?_
                          conv => whnf
                          refine Side.mk rfl ?_
                          conv => whnf
                          refine Br.mk (fun hc614 => ?_) (fun hc614 => ?_)
                          · replace hx288 := ite_f hc614 hx288
                            conv => whnf
                            refine Side.mk rfl ?_
                            conv => whnf
                            refine Side.mk rfl ?_
                            conv => whnf
                            refine Br.mk (fun hc615 => ?_) (fun hc615 => ?_)
                            · replace hx288 := ite_f hc615 hx288
                              conv => whnf
                              refine Side.mk rfl ?_
                              conv => whnf
                              refine Side.mk rfl ?_
                              conv => whnf
                              refine Need.mk ⟨rfl, rfl⟩ (EqB.mk _ (eqc_Ar3Inti64 x156.fGames x168.fGames) ?_)
                              cases hx288
                              conv => whnf
                              refine ⟨(), trivial, Sub.eq rfl ?_ ?_⟩
                              · repeat ((conv => whnf); refine Need.mk rfl ?_)
                                exact trivial
                              · conv => whnf
                                refine Need.mk (OLe.refl _) ?_
                                exact trivial
                            · replace hx288 := ite_t hc615 hx288
                              cases hx288
                              conv => whnf
                              refine ⟨(), trivial, Sub.eq rfl ?_ ?_⟩
                              · repeat ((conv => whnf); refine Need.mk rfl ?_)
                                exact trivial
                              · conv => whnf
                                refine Need.mk (OLe.refl _) ?_
                                exact trivial
                          · replace hx288 := ite_t hc614 hx288
                            cases hx288
                            conv => whnf
                            refine ⟨(), trivial, Sub.eq rfl ?_ ?_⟩
                            · repeat ((conv => whnf); refine Need.mk rfl ?_)
                              exact trivial
                            · conv => whnf
                              refine Need.mk (OLe.refl _) ?_
                              exact trivial
                        · replace hx288 := ite_f hc613 hx288
                          cases hx288
                          conv => whnf
                          refine ⟨(), trivial, Sub.eq rfl ?_ ?_⟩
                          · repeat ((conv => whnf); refine Need.mk rfl ?_)
                            exact trivial
                          · conv => whnf
                            refine Need.mk (OLe.refl _) ?_
                            exact trivial
                      · rintro _ _
                        conv => whnf
                        refine Br.mk (fun hc616 => ?_) (fun hc616 => ?_)
                        · replace hl14 := ite_t hc616 hl14
                          conv => whnf
                          cases hl14
                          exact rfl
                        · replace hl14 := ite_f hc616 hl14
                          conv => whnf
                          refine ⟨(n14, (v199, w64 (v200 + 1))), hl14, Sub.eq rfl ?_ ?_, Nat.lt_succ_self _⟩
                          · repeat ((conv => whnf); refine Need.mk rfl ?_)
                            exact trivial
                          · conv => whnf
                            refine Need.mk (OLe.refl _) ?_
                            exact trivial
                    · replace hl14 := ite_f hc602 hl14
                      conv => whnf
                      refine ⟨(), hl14, Sub.eq rfl ?_ ?_⟩
                      · repeat ((conv => whnf); refine Need.mk rfl ?_)
                        exact trivial
                      · exact trivial
                · rintro _ h
                  unfold rateCheckBook_k2 at h
                  conv => whnf
                  refine ⟨(n12, (v171, w64 (v172 + 1))), h, Sub.eq rfl ?_ ?_, Nat.lt_succ_self _⟩
                  · repeat ((conv => whnf); refine Need.mk rfl ?_)
                    exact trivial
                  · exact trivial
              · replace hl12 := ite_f hc520 hl12
                conv => whnf
                refine ⟨(), hl12, Sub.eq rfl ?_ ?_⟩
                · repeat ((conv => whnf); refine Need.mk rfl ?_)
                  exact trivial
                · exact trivial
          · clear h
            rintro _ h
            unfold rateCheckBook_k1 at h
            conv => whnf
            cases h
            exact rfl

theorem slicesIndexC {N : Nat} (hN : N ≤ 1073741824) {s1 : List Int} {v1 : Int} {r : Int} (h : slicesIndex N s1 v1 = some r) :
    ACalls Try.prog 57 [.d (.list 1 (List.map I s1)), .d (I v1)] [] fun e os => e = .ret (.d (I r)) ∧ os = [] := by
  refine acalls_f (fresh := false) tt_ok dr_ok ⟨[], [], [], [], [1001], 0⟩ Try.func57 rfl Try.call57 rfl ?_
  unfold slicesIndex at h
  conv => whnf
  refine SeqG.mk Unit (fun y => []) (fun y => []) (fun y => slicesIndex_k1 N = some r) ?_ ?_
  · conv => whnf
    refine Ln.mk _ (List.length_map _) ?_
    conv => whnf
    refine LoopG.mk (Nat × (Int × Int)) (fun y => [(0, .d (.list 1 (List.map I s1))), (1, .d (I v1)), (7, .d (I y.2.1)), (8, .d (I y.2.2))]) (fun y => []) (fun y => loopN (fun rr x => slicesIndex_b2 N s1 v1 rr x.1 x.2) y.1 y.2 = some r) (fun y => y.1) (N, ((s1.length : Int), 0)) h (Sub.eq rfl ?_ ?_) ?_
    · repeat ((conv => whnf); refine Need.mk rfl ?_)
      exact trivial
    · exact trivial
    · rintro ⟨n2, ⟨v18, v19⟩⟩ hl2
      obtain ⟨n2, rfl, hl2⟩ := loopN_some hl2
      replace hl2 : slicesIndex_b2 N s1 v1 (loopN (fun rr x => slicesIndex_b2 N s1 v1 rr x.1 x.2) n2) v18 v19 = some r := hl2
      rw [slicesIndex_b2] at hl2
      conv => whnf
      refine Br.mk (fun hc22 => ?_) (fun hc22 => ?_)
      · replace hl2 := ite_t hc22 hl2
        obtain ⟨x24, hx24, hl2⟩ := obind hl2
        conv => whnf
        refine Side.mk rfl ⟨_, idx_0 hx24, idx_map _ hx24, ?_⟩
        conv => whnf
        refine Br.mk (fun hc24 => ?_) (fun hc24 => ?_)
        · replace hl2 := ite_t hc24 hl2
          conv => whnf
          cases hl2
          exact rfl
        · replace hl2 := ite_f hc24 hl2
          conv => whnf
          refine ⟨(n2, (v18, w64 (v19 + 1))), hl2, Sub.eq rfl ?_ ?_, Nat.lt_succ_self _⟩
          · repeat ((conv => whnf); refine Need.mk rfl ?_)
            exact trivial
          · exact trivial
      · replace hl2 := ite_f hc22 hl2
        conv => whnf
        refine ⟨(), hl2, Sub.eq rfl ?_ ?_⟩
        · repeat ((conv => whnf); refine Need.mk rfl ?_)
          exact trivial
        · exact trivial
  · clear h
    rintro _ h
    unfold slicesIndex_k1 at h
    conv => whnf
    cases h
    exact rfl

theorem slicesContainsC {N : Nat} (hN : N ≤ 1073741824) {s1 : List Int} {v1 : Int} {r : Bool} (h : slicesContains N s1 v1 = some r) :
    ACalls Try.prog 47 [.d (.list 1 (List.map I s1)), .d (I v1)] [] fun e os => e = .ret (.d (.bool r)) ∧ os = [] := by
  refine acalls_f (fresh := false) tt_ok dr_ok ⟨[], [], [], [], [], 0⟩ Try.func47 rfl Try.call47 rfl ?_
  unfold slicesContains at h
  obtain ⟨r2, hx2, h⟩ := obind h
  conv => whnf
  refine CallG.pure _ (slicesIndexC hN hx2) ?_
  conv => whnf
  cases h
  exact rfl
end Go.Proofs.Ythbifolpofillaa
