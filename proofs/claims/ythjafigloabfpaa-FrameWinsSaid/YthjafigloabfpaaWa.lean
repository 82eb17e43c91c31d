/-
  Walks: what the typed functions compute, the program’s functions return.
-/
import Derived.Test.YthjafigloabfpaaWe
namespace Go.Proofs.Ythjafigloabfpaa
open Go Go.Abs Go.Kp
set_option maxRecDepth 100000
set_option maxHeartbeats 8000000
set_option linter.all false

theorem law01TenC {N : Nat} (hN : N ≤ 1073741824)  {r : FrameLaw} (h : law01Ten N = some r) :
    ACalls Try.prog 38 [] [] fun e os => e = .ret (.d (.agg [I r.fFrames, I r.fPins, I r.fBalls, I r.fTap])) ∧ os = [] := by
  refine acalls_f (fresh := false) tt_ok dr_ok ⟨[], [], [], [], [], 0⟩ Try.func38 rfl Try.call38 rfl ?_
  unfold law01Ten at h
  conv => whnf
  intro b2
  conv => whnf
  refine Side.mk rfl ?_
  conv => whnf
  refine Side.mk rfl ?_
  conv => whnf
  cases h
  exact rfl

theorem law01EveningC {N : Nat} (hN : N ≤ 1073741824)  {r : (List Int)} (h : law01Evening N = some r) :
    ACalls Try.prog 39 [] [] fun e os => e = .ret (.d (.list 1 (List.map I r))) ∧ os = [] := by
  refine acalls_f (fresh := false) tt_ok dr_ok ⟨[], [], [], [], [], 0⟩ Try.func39 rfl Try.call39 rfl ?_
  unfold law01Evening at h
  conv => whnf
  intro hd2
  conv => whnf
  refine Side.mk rfl ?_
  conv => whnf
  cases h
  exact rfl

theorem frameWithinC {N : Nat} (hN : N ≤ 1073741824) {n1 : Int} {low1 : Int} {high1 : Int} {r : Bool} (h : frameWithin N n1 low1 high1 = some r) :
    ACalls Try.prog 41 [.d (I n1), .d (I low1), .d (I high1)] [] fun e os => e = .ret (.d (.bool r)) ∧ os = [] := by
  refine acalls_f (fresh := false) tt_ok dr_ok ⟨[], [], [], [], [1], 0⟩ Try.func41 rfl Try.call41 rfl ?_
  unfold frameWithin at h
  obtain ⟨v1, hx1, h⟩ := obind h
  conv => whnf
  refine SeqG.mk Unit (fun y => [(6, .d (.bool v1))]) (fun y => []) (fun _ => True) ?_ ?_
  · conv => whnf
    refine Br.mk (fun hc2 => ?_) (fun hc2 => ?_)
    · replace hx1 := ite_t hc2 hx1
      cases hx1
      conv => whnf
      refine ⟨(), trivial, Sub.eq rfl ?_ ?_⟩
      · repeat ((conv => whnf); refine Need.mk rfl ?_)
        exact trivial
      · exact trivial
    · replace hx1 := ite_f hc2 hx1
      cases hx1
      conv => whnf
      refine ⟨(), trivial, Sub.eq rfl ?_ ?_⟩
      · repeat ((conv => whnf); refine Need.mk rfl ?_)
        exact trivial
      · exact trivial
  · rintro _ _
    conv => whnf
    cases h
    exact rfl

theorem frameCheckLawC {N : Nat} (hN : N ≤ 1073741824) {l1 : FrameLaw} {r : Int} (h : frameCheckLaw N l1 = some r) :
    ACalls Try.prog 18 [.d (.agg [I l1.fFrames, I l1.fPins, I l1.fBalls, I l1.fTap])] [] fun e os => e = .ret (.d (I r)) ∧ os = [] := by
  refine acalls_f (fresh := false) tt_ok dr_ok ⟨[1], [], [], [], [1], 0⟩ Try.func18 rfl Try.call18 rfl ?_
  unfold frameCheckLaw at h
  obtain ⟨v2, hx14, h⟩ := obind h
  conv => whnf
  refine SeqG.mk Unit (fun y => [(26, .d (.bool v2))]) (fun y => []) (fun _ => True) ?_ ?_
  · obtain ⟨r13, hx15, hx14⟩ := obind hx14
    conv => whnf
    refine CallG.pure _ (frameWithinC hN hx15) ?_
    conv => whnf
    refine Br.mk (fun hc11 => ?_) (fun hc11 => ?_)
    · replace hx14 := ite_f hc11 hx14
      obtain ⟨r14, hx16, hx14⟩ := obind hx14
      conv => whnf
      refine CallG.pure _ (frameWithinC hN hx16) ?_
      conv => whnf
      refine Br.mk (fun hc12 => ?_) (fun hc12 => ?_)
      · replace hx14 := ite_f hc12 hx14
        obtain ⟨r15, hx17, hx14⟩ := obind hx14
        conv => whnf
        refine CallG.pure _ (frameWithinC hN hx17) ?_
        conv => whnf
        refine Br.mk (fun hc13 => ?_) (fun hc13 => ?_)
        · replace hx14 := ite_f hc13 hx14
          obtain ⟨r16, hx18, hx14⟩ := obind hx14
          conv => whnf
          refine CallG.pure _ (frameWithinC hN hx18) ?_
          cases hx14
          conv => whnf
          refine ⟨(), trivial, Sub.eq rfl ?_ ?_⟩
          · repeat ((conv => whnf); refine Need.mk rfl ?_)
            exact trivial
          · exact trivial
        · replace hx14 := ite_t hc13 hx14
          cases hx14
          conv => whnf
          refine ⟨(), trivial, Sub.eq rfl ?_ ?_⟩
          · repeat ((conv => whnf); refine Need.mk rfl ?_)
            exact trivial
          · exact trivial
      · replace hx14 := ite_t hc12 hx14
        cases hx14
        conv => whnf
        refine ⟨(), trivial, Sub.eq rfl ?_ ?_⟩
        · repeat ((conv => whnf); refine Need.mk rfl ?_)
          exact trivial
        · exact trivial
    · replace hx14 := ite_t hc11 hx14
      cases hx14
      conv => whnf
      refine ⟨(), trivial, Sub.eq rfl ?_ ?_⟩
      · repeat ((conv => whnf); refine Need.mk rfl ?_)
        exact trivial
      · exact trivial
  · rintro _ _
    conv => whnf
    refine Br.mk (fun hc14 => ?_) (fun hc14 => ?_)
    · replace h := ite_t hc14 h
      conv => whnf
      cases h
      exact rfl
    · replace h := ite_f hc14 h
      conv => whnf
      cases h
      exact rfl

theorem frameLawBallsC {N : Nat} (hN : N ≤ 1073741824) {l1 : FrameLaw} {sheet1 : List Int} {r : FrameLaw × (List Int)} (h : frameLawBalls N l1 sheet1 = some r) :
    ACalls Try.prog 49 [.d (.agg [I l1.fFrames, I l1.fPins, I l1.fBalls, I l1.fTap]), .d (.list 1 (List.map I sheet1))] [] fun e os => e = .ret (.d (.fn (.func 65) [] [.ref (.agg [I r.1.fFrames, I r.1.fPins, I r.1.fBalls, I r.1.fTap]), .ref (.agg [.list 1 (List.map I r.2)])])) ∧ os = [] := by
  refine acalls_f (fresh := false) tt_ok dr_ok ⟨[2, 3], [], [], [], [], 0⟩ Try.func49 rfl Try.call49 rfl ?_
  unfold frameLawBalls at h
  conv => whnf
  cases h
  exact rfl

theorem frameLawBeginC {N : Nat} (hN : N ≤ 1073741824) {l1 : FrameLaw} {r : FramePlay} (h : frameLawBegin N l1 = some r) :
    ACalls Try.prog 66 [.d (.agg [I l1.fFrames, I l1.fPins, I l1.fBalls, I l1.fTap])] [] fun e os => e = .ret (.d (.agg [I r.fLaw.fFrames, I r.fLaw.fPins, I r.fLaw.fBalls, I r.fLaw.fTap, I r.fAt.fFrame, I r.fAt.fThrown, I r.fAt.fStanding, .bool r.fAt.fFresh, I r.fAt.fNeed, I r.fAt.fAfter.a0, I r.fAt.fAfter.a1])) ∧ os = [] := by
  refine acalls_f (fresh := false) tt_ok dr_ok ⟨[1], [], [], [], [], 0⟩ Try.func66 rfl Try.call66 rfl ?_
  unfold frameLawBegin at h
  conv => whnf
  intro b2
  conv => whnf
  refine Side.mk rfl ?_
  conv => whnf
  refine Side.mk rfl ?_
  conv => whnf
  cases h
  exact rfl

theorem framePlayDoneC {N : Nat} (hN : N ≤ 1073741824) {p1 : FramePlay} {r : Bool} (h : framePlayDone N p1 = some r) :
    ACalls Try.prog 51 [.d (.agg [I p1.fLaw.fFrames, I p1.fLaw.fPins, I p1.fLaw.fBalls, I p1.fLaw.fTap, I p1.fAt.fFrame, I p1.fAt.fThrown, I p1.fAt.fStanding, .bool p1.fAt.fFresh, I p1.fAt.fNeed, I p1.fAt.fAfter.a0, I p1.fAt.fAfter.a1])] [] fun e os => e = .ret (.d (.bool r)) ∧ os = [] := by
  refine acalls_f (fresh := false) tt_ok dr_ok ⟨[1], [], [], [], [], 0⟩ Try.func51 rfl Try.call51 rfl ?_
  unfold framePlayDone at h
  conv => whnf
  cases h
  exact rfl

theorem framePlayMayC {N : Nat} (hN : N ≤ 1073741824) {p1 : FramePlay} {ball1 : Int} {r : Bool} (h : framePlayMay N p1 ball1 = some r) :
    ACalls Try.prog 67 [.d (.agg [I p1.fLaw.fFrames, I p1.fLaw.fPins, I p1.fLaw.fBalls, I p1.fLaw.fTap, I p1.fAt.fFrame, I p1.fAt.fThrown, I p1.fAt.fStanding, .bool p1.fAt.fFresh, I p1.fAt.fNeed, I p1.fAt.fAfter.a0, I p1.fAt.fAfter.a1]), .d (I ball1)] [] fun e os => e = .ret (.d (.bool r)) ∧ os = [] := by
  refine acalls_f (fresh := false) tt_ok dr_ok ⟨[2], [], [], [], [1], 0⟩ Try.func67 rfl Try.call67 rfl ?_
  unfold framePlayMay at h
  obtain ⟨v1, hx3, h⟩ := obind h
  conv => whnf
  refine SeqG.mk Unit (fun y => [(4, .d (.bool v1))]) (fun y => []) (fun _ => True) ?_ ?_
  · obtain ⟨r3, hx4, hx3⟩ := obind hx3
    conv => whnf
    refine CallG.pure _ (framePlayDoneC hN hx4) ?_
    conv => whnf
    refine Br.mk (fun hc2 => ?_) (fun hc2 => ?_)
    · replace hx3 := ite_t hc2 hx3
      obtain ⟨r4, hx5, hx3⟩ := obind hx3
      conv => whnf
      refine CallG.pure _ (frameWithinC hN hx5) ?_
      cases hx3
      conv => whnf
      refine ⟨(), trivial, Sub.eq rfl ?_ ?_⟩
      · repeat ((conv => whnf); refine Need.mk rfl ?_)
        exact trivial
      · exact trivial
    · replace hx3 := ite_f hc2 hx3
      cases hx3
      conv => whnf
      refine ⟨(), trivial, Sub.eq rfl ?_ ?_⟩
      · repeat ((conv => whnf); refine Need.mk rfl ?_)
        exact trivial
      · exact trivial
  · rintro _ _
    conv => whnf
    cases h
    exact rfl

theorem framePlayNextC {N : Nat} (hN : N ≤ 1073741824) {a1 : FramePlay} {a2 : Int} {r : FramePlay × Int × Int} (h : framePlayNext N a1 a2 = some r) :
    ACalls Try.prog 55 [.d (.agg [I a1.fLaw.fFrames, I a1.fLaw.fPins, I a1.fLaw.fBalls, I a1.fLaw.fTap, I a1.fAt.fFrame, I a1.fAt.fThrown, I a1.fAt.fStanding, .bool a1.fAt.fFresh, I a1.fAt.fNeed, I a1.fAt.fAfter.a0, I a1.fAt.fAfter.a1]), .d (I a2)] [] fun e os => e = .ret (.d (.tup [.agg [I r.1.fLaw.fFrames, I r.1.fLaw.fPins, I r.1.fLaw.fBalls, I r.1.fLaw.fTap, I r.1.fAt.fFrame, I r.1.fAt.fThrown, I r.1.fAt.fStanding, .bool r.1.fAt.fFresh, I r.1.fAt.fNeed, I r.1.fAt.fAfter.a0, I r.1.fAt.fAfter.a1], I r.2.1, I r.2.2])) ∧ os = [] := by
  refine acalls_f (fresh := false) tt_ok dr_ok ⟨[], [], [], [], [2, 10, 13, 15, 17, 1002, 1010, 1017], 0⟩ Try.func55 rfl Try.call55 rfl ?_
  unfold framePlayNext at h
  conv => whnf
  intro b3
  conv => whnf
  intro b4
  obtain ⟨v3, hx2, h⟩ := obind h
  conv => whnf
  refine SeqG.mk Unit (fun y => [(2, .ptr 2 b3 0), (4, .ptr 4 b4 0), (7, .d (I v3))]) (fun y => [(2, .cells b3 [.d (I a1.fLaw.fFrames), .d (I a1.fLaw.fPins), .d (I a1.fLaw.fBalls), .d (I a1.fLaw.fTap), .d (I a1.fAt.fFrame), .d (I a1.fAt.fThrown), .d (I a1.fAt.fStanding), .d (.bool a1.fAt.fFresh), .d (I a1.fAt.fNeed), .d (I a1.fAt.fAfter.a0), .d (I a1.fAt.fAfter.a1)]), (4, .cells b4 [.d (I 0), .d (I 0), .d (I 0), .d (I 0), .d (I 0), .d (I 0), .d (I 0), .d (.bool false), .d (I 0), .d (I 0), .d (I 0)])]) (fun _ => True) ?_ ?_
  · obtain ⟨⟨v4, v5⟩, hx3, hx2⟩ := obind hx2
    conv => whnf
    refine SeqG.mk Unit (fun y => [(2, .ptr 2 b3 0), (4, .ptr 4 b4 0), (7, .d (I v4)), (22, .d (.bool v5))]) (fun y => [(2, .cells b3 [.d (I a1.fLaw.fFrames), .d (I a1.fLaw.fPins), .d (I a1.fLaw.fBalls), .d (I a1.fLaw.fTap), .d (I a1.fAt.fFrame), .d (I a1.fAt.fThrown), .d (I a1.fAt.fStanding), .d (.bool a1.fAt.fFresh), .d (I a1.fAt.fNeed), .d (I a1.fAt.fAfter.a0), .d (I a1.fAt.fAfter.a1)]), (4, .cells b4 [.d (I 0), .d (I 0), .d (I 0), .d (I 0), .d (I 0), .d (I 0), .d (I 0), .d (.bool false), .d (I 0), .d (I 0), .d (I 0)])]) (fun _ => True) ?_ ?_
    · conv => whnf
      refine Side.mk rfl ?_
      conv => whnf
      refine Br.mk (fun hc5 => ?_) (fun hc5 => ?_)
      · replace hx3 := ite_t hc5 hx3
        conv => whnf
        refine Side.mk rfl ?_
        cases hx3
        conv => whnf
        refine ⟨(), trivial, Sub.eq rfl ?_ ?_⟩
        · repeat ((conv => whnf); refine Need.mk rfl ?_)
          exact trivial
        · conv => whnf
          refine Need.mk (OLe.refl _) ?_
          conv => whnf
          refine Need.mk (OLe.refl _) ?_
          exact trivial
      · replace hx3 := ite_f hc5 hx3
        cases hx3
        conv => whnf
        refine ⟨(), trivial, Sub.eq rfl ?_ ?_⟩
        · repeat ((conv => whnf); refine Need.mk rfl ?_)
          exact trivial
        · conv => whnf
          refine Need.mk (OLe.refl _) ?_
          conv => whnf
          refine Need.mk (OLe.refl _) ?_
          exact trivial
    · rintro _ _
      conv => whnf
      refine Br.mk (fun hc6 => ?_) (fun hc6 => ?_)
      · replace hx2 := ite_t hc6 hx2
        conv => whnf
        refine Side.mk rfl ?_
        cases hx2
        conv => whnf
        refine ⟨(), trivial, Sub.eq rfl ?_ ?_⟩
        · repeat ((conv => whnf); refine Need.mk rfl ?_)
          exact trivial
        · conv => whnf
          refine Need.mk (OLe.refl _) ?_
          conv => whnf
          refine Need.mk (OLe.refl _) ?_
          exact trivial
      · replace hx2 := ite_f hc6 hx2
        cases hx2
        conv => whnf
        refine ⟨(), trivial, Sub.eq rfl ?_ ?_⟩
        · repeat ((conv => whnf); refine Need.mk rfl ?_)
          exact trivial
        · conv => whnf
          refine Need.mk (OLe.refl _) ?_
          conv => whnf
          refine Need.mk (OLe.refl _) ?_
          exact trivial
  · rintro _ _
    conv => whnf
    refine Need.mk (by decide) ?_
    conv => whnf
    refine Side.mk rfl ?_
    conv => whnf
    refine Need.mk (by decide) ?_
    conv => whnf
    refine Side.mk rfl ?_
    conv => whnf
    refine Side.mk rfl ?_
    conv => whnf
    refine Side.mk rfl ?_
    conv => whnf
    refine Side.mk rfl ?_
    conv => whnf
    refine Side.mk rfl ?_
    conv => whnf
    refine Side.mk rfl ?_
    conv => whnf
    refine Side.mk rfl ?_
    conv => whnf
    refine Side.mk rfl ?_
    conv => whnf
    refine Side.mk rfl ?_
    conv => whnf
    refine Side.mk rfl ?_
    obtain ⟨⟨v12, v13, v14, c2⟩, hx7, h⟩ := obind h
    conv => whnf
    refine SeqG.mk Unit (fun y => [(2, .ptr 2 b3 0), (4, .ptr 4 b4 0), (7, .d (I v3)), (8, .d (I v12)), (9, .d (.bool v13)), (10, .d (.bool v14))]) (fun y => [(2, .cells b3 [.d (I c2.fLaw.fFrames), .d (I c2.fLaw.fPins), .d (I c2.fLaw.fBalls), .d (I c2.fLaw.fTap), .d (I c2.fAt.fFrame), .d (I c2.fAt.fThrown), .d (I c2.fAt.fStanding), .d (.bool c2.fAt.fFresh), .d (I c2.fAt.fNeed), .d (I c2.fAt.fAfter.a0), .d (I c2.fAt.fAfter.a1)]), (4, .cells b4 [.d (I 0), .d (I 0), .d (I 0), .d (I 0), .d (I 0), .d (I 0), .d (I 0), .d (.bool false), .d (I 0), .d (I 0), .d (I 0)])]) (fun _ => True) ?_ ?_
    · obtain ⟨⟨v15, v16, v17, v18, c3⟩, hx8, hx7⟩ := obind hx7
      conv => whnf
      refine SeqG.mk Unit (fun y => [(2, .ptr 2 b3 0), (4, .ptr 4 b4 0), (7, .d (I v3)), (8, .d (I v15)), (9, .d (.bool v16)), (10, .d (.bool v17)), (67, .d (.bool v18))]) (fun y => [(2, .cells b3 [.d (I c3.fLaw.fFrames), .d (I c3.fLaw.fPins), .d (I c3.fLaw.fBalls), .d (I c3.fLaw.fTap), .d (I c3.fAt.fFrame), .d (I c3.fAt.fThrown), .d (I c3.fAt.fStanding), .d (.bool c3.fAt.fFresh), .d (I c3.fAt.fNeed), .d (I c3.fAt.fAfter.a0), .d (I c3.fAt.fAfter.a1)]), (4, .cells b4 [.d (I 0), .d (I 0), .d (I 0), .d (I 0), .d (I 0), .d (I 0), .d (I 0), .d (.bool false), .d (I 0), .d (I 0), .d (I 0)])]) (fun _ => True) ?_ ?_
      · conv => whnf
        refine Br.mk (fun hc24 => ?_) (fun hc24 => ?_)
        · replace hx8 := ite_t hc24 hx8
          conv => whnf
          refine Br.mk (fun hc25 => ?_) (fun hc25 => ?_)
          · replace hx8 := ite_t hc25 hx8
            conv => whnf
            refine Side.mk rfl ?_
            cases hx8
            conv => whnf
            refine ⟨(), trivial, Sub.eq rfl ?_ ?_⟩
            · repeat ((conv => whnf); refine Need.mk rfl ?_)
              exact trivial
            · conv => whnf
              refine Need.mk (OLe.refl _) ?_
              conv => whnf
              refine Need.mk (OLe.refl _) ?_
              exact trivial
          · replace hx8 := ite_f hc25 hx8
            cases hx8
            conv => whnf
            refine ⟨(), trivial, Sub.eq rfl ?_ ?_⟩
            · repeat ((conv => whnf); refine Need.mk rfl ?_)
              exact trivial
            · conv => whnf
              refine Need.mk (OLe.refl _) ?_
              conv => whnf
              refine Need.mk (OLe.refl _) ?_
              exact trivial
        · replace hx8 := ite_f hc24 hx8
          cases hx8
          conv => whnf
          refine ⟨(), trivial, Sub.eq rfl ?_ ?_⟩
          · repeat ((conv => whnf); refine Need.mk rfl ?_)
            exact trivial
          · conv => whnf
            refine Need.mk (OLe.refl _) ?_
            conv => whnf
            refine Need.mk (OLe.refl _) ?_
            exact trivial
      · rintro _ _
        conv => whnf
        refine Br.mk (fun hc26 => ?_) (fun hc26 => ?_)
        · replace hx7 := ite_t hc26 hx7
          conv => whnf
          refine Side.mk rfl ?_
          conv => whnf
          refine Side.mk rfl ?_
          conv => whnf
          refine Side.mk rfl ?_
          conv => whnf
          refine Side.mk rfl ?_
          cases hx7
          conv => whnf
          refine ⟨(), trivial, Sub.eq rfl ?_ ?_⟩
          · repeat ((conv => whnf); refine Need.mk rfl ?_)
            exact trivial
          · conv => whnf
            refine Need.mk (OLe.refl _) ?_
            conv => whnf
            refine Need.mk (OLe.refl _) ?_
            exact trivial
        · replace hx7 := ite_f hc26 hx7
          obtain ⟨v19, hx9, hx7⟩ := obind hx7
          conv => whnf
          refine SeqG.mk Unit (fun y => [(2, .ptr 2 b3 0), (4, .ptr 4 b4 0), (7, .d (I v3)), (8, .d (I v15)), (9, .d (.bool v16)), (10, .d (.bool v17)), (87, .d (.bool v19))]) (fun y => [(2, .cells b3 [.d (I c3.fLaw.fFrames), .d (I c3.fLaw.fPins), .d (I c3.fLaw.fBalls), .d (I c3.fLaw.fTap), .d (I c3.fAt.fFrame), .d (I c3.fAt.fThrown), .d (I c3.fAt.fStanding), .d (.bool c3.fAt.fFresh), .d (I c3.fAt.fNeed), .d (I c3.fAt.fAfter.a0), .d (I c3.fAt.fAfter.a1)]), (4, .cells b4 [.d (I 0), .d (I 0), .d (I 0), .d (I 0), .d (I 0), .d (I 0), .d (I 0), .d (.bool false), .d (I 0), .d (I 0), .d (I 0)])]) (fun _ => True) ?_ ?_
          · conv => whnf
            refine Br.mk (fun hc29 => ?_) (fun hc29 => ?_)
            · replace hx9 := ite_t hc29 hx9
              conv => whnf
              refine Br.mk (fun hc30 => ?_) (fun hc30 => ?_)
              · replace hx9 := ite_t hc30 hx9
                conv => whnf
                refine Side.mk rfl ?_
                cases hx9
                conv => whnf
                refine ⟨(), trivial, Sub.eq rfl ?_ ?_⟩
                · repeat ((conv => whnf); refine Need.mk rfl ?_)
                  exact trivial
                · conv => whnf
                  refine Need.mk (OLe.refl _) ?_
                  conv => whnf
                  refine Need.mk (OLe.refl _) ?_
                  exact trivial
              · replace hx9 := ite_f hc30 hx9
                cases hx9
                conv => whnf
                refine ⟨(), trivial, Sub.eq rfl ?_ ?_⟩
                · repeat ((conv => whnf); refine Need.mk rfl ?_)
                  exact trivial
                · conv => whnf
                  refine Need.mk (OLe.refl _) ?_
                  conv => whnf
                  refine Need.mk (OLe.refl _) ?_
                  exact trivial
            · replace hx9 := ite_f hc29 hx9
              cases hx9
              conv => whnf
              refine ⟨(), trivial, Sub.eq rfl ?_ ?_⟩
              · repeat ((conv => whnf); refine Need.mk rfl ?_)
                exact trivial
              · conv => whnf
                refine Need.mk (OLe.refl _) ?_
                conv => whnf
                refine Need.mk (OLe.refl _) ?_
                exact trivial
          · rintro _ _
            conv => whnf
            refine Br.mk (fun hc31 => ?_) (fun hc31 => ?_)
            · replace hx7 := ite_t hc31 hx7
              conv => whnf
              refine Need.mk (by decide) ?_
              conv => whnf
              refine Side.mk rfl ?_
              conv => whnf
              refine Need.mk (by decide) ?_
              conv => whnf
              refine Side.mk rfl ?_
              conv => whnf
              refine Side.mk rfl ?_
              cases hx7
              conv => whnf
              refine ⟨(), trivial, Sub.eq rfl ?_ ?_⟩
              · repeat ((conv => whnf); refine Need.mk rfl ?_)
                exact trivial
              · conv => whnf
                refine Need.mk (OLe.refl _) ?_
                conv => whnf
                refine Need.mk (OLe.refl _) ?_
                exact trivial
            · replace hx7 := ite_f hc31 hx7
              obtain ⟨v20, hx10, hx7⟩ := obind hx7
              conv => whnf
              refine SeqG.mk Unit (fun y => [(2, .ptr 2 b3 0), (4, .ptr 4 b4 0), (7, .d (I v3)), (8, .d (I v15)), (9, .d (.bool v16)), (10, .d (.bool v17)), (112, .d (.bool v20))]) (fun y => [(2, .cells b3 [.d (I c3.fLaw.fFrames), .d (I c3.fLaw.fPins), .d (I c3.fLaw.fBalls), .d (I c3.fLaw.fTap), .d (I c3.fAt.fFrame), .d (I c3.fAt.fThrown), .d (I c3.fAt.fStanding), .d (.bool c3.fAt.fFresh), .d (I c3.fAt.fNeed), .d (I c3.fAt.fAfter.a0), .d (I c3.fAt.fAfter.a1)]), (4, .cells b4 [.d (I 0), .d (I 0), .d (I 0), .d (I 0), .d (I 0), .d (I 0), .d (I 0), .d (.bool false), .d (I 0), .d (I 0), .d (I 0)])]) (fun _ => True) ?_ ?_
              · conv => whnf
                refine Br.mk (fun hc34 => ?_) (fun hc34 => ?_)
                · replace hx10 := ite_t hc34 hx10
                  conv => whnf
                  refine Br.mk (fun hc35 => ?_) (fun hc35 => ?_)
                  · replace hx10 := ite_t hc35 hx10
                    conv => whnf
                    refine Side.mk rfl ?_
                    cases hx10
                    conv => whnf
                    refine ⟨(), trivial, Sub.eq rfl ?_ ?_⟩
                    · repeat ((conv => whnf); refine Need.mk rfl ?_)
                      exact trivial
                    · conv => whnf
                      refine Need.mk (OLe.refl _) ?_
                      conv => whnf
                      refine Need.mk (OLe.refl _) ?_
                      exact trivial
                  · replace hx10 := ite_f hc35 hx10
                    cases hx10
                    conv => whnf
                    refine ⟨(), trivial, Sub.eq rfl ?_ ?_⟩
                    · repeat ((conv => whnf); refine Need.mk rfl ?_)
                      exact trivial
                    · conv => whnf
                      refine Need.mk (OLe.refl _) ?_
                      conv => whnf
                      refine Need.mk (OLe.refl _) ?_
                      exact trivial
                · replace hx10 := ite_f hc34 hx10
                  cases hx10
                  conv => whnf
                  refine ⟨(), trivial, Sub.eq rfl ?_ ?_⟩
                  · repeat ((conv => whnf); refine Need.mk rfl ?_)
                    exact trivial
                  · conv => whnf
                    refine Need.mk (OLe.refl _) ?_
                    conv => whnf
                    refine Need.mk (OLe.refl _) ?_
                    exact trivial
              · rintro _ _
                conv => whnf
                refine Br.mk (fun hc36 => ?_) (fun hc36 => ?_)
                · replace hx7 := ite_t hc36 hx7
                  conv => whnf
                  refine Need.mk (by decide) ?_
                  conv => whnf
                  refine Side.mk rfl ?_
                  conv => whnf
                  refine Need.mk (by decide) ?_
                  conv => whnf
                  refine Side.mk rfl ?_
                  cases hx7
                  conv => whnf
                  refine ⟨(), trivial, Sub.eq rfl ?_ ?_⟩
                  · repeat ((conv => whnf); refine Need.mk rfl ?_)
                    exact trivial
                  · conv => whnf
                    refine Need.mk (OLe.refl _) ?_
                    conv => whnf
                    refine Need.mk (OLe.refl _) ?_
                    exact trivial
                · replace hx7 := ite_f hc36 hx7
                  cases hx7
                  conv => whnf
                  refine ⟨(), trivial, Sub.eq rfl ?_ ?_⟩
                  · repeat ((conv => whnf); refine Need.mk rfl ?_)
                    exact trivial
                  · conv => whnf
                    refine Need.mk (OLe.refl _) ?_
                    conv => whnf
                    refine Need.mk (OLe.refl _) ?_
                    exact trivial
    · rintro _ _
      obtain ⟨c4, hx12, h⟩ := obind h
      conv => whnf
      refine SeqG.mk Unit (fun y => [(2, .ptr 2 b3 0), (4, .ptr 4 b4 0), (7, .d (I v3)), (8, .d (I v12))]) (fun y => [(2, .cells b3 [.d (I c4.fLaw.fFrames), .d (I c4.fLaw.fPins), .d (I c4.fLaw.fBalls), .d (I c4.fLaw.fTap), .d (I c4.fAt.fFrame), .d (I c4.fAt.fThrown), .d (I c4.fAt.fStanding), .d (.bool c4.fAt.fFresh), .d (I c4.fAt.fNeed), .d (I c4.fAt.fAfter.a0), .d (I c4.fAt.fAfter.a1)]), (4, .cells b4 [.d (I 0), .d (I 0), .d (I 0), .d (I 0), .d (I 0), .d (I 0), .d (I 0), .d (.bool false), .d (I 0), .d (I 0), .d (I 0)])]) (fun _ => True) ?_ ?_
      · obtain ⟨v22, hx13, hx12⟩ := obind hx12
        conv => whnf
        refine SeqG.mk Unit (fun y => [(2, .ptr 2 b3 0), (4, .ptr 4 b4 0), (7, .d (I v3)), (8, .d (I v12)), (145, .d (.bool v22))]) (fun y => [(2, .cells b3 [.d (I c2.fLaw.fFrames), .d (I c2.fLaw.fPins), .d (I c2.fLaw.fBalls), .d (I c2.fLaw.fTap), .d (I c2.fAt.fFrame), .d (I c2.fAt.fThrown), .d (I c2.fAt.fStanding), .d (.bool c2.fAt.fFresh), .d (I c2.fAt.fNeed), .d (I c2.fAt.fAfter.a0), .d (I c2.fAt.fAfter.a1)]), (4, .cells b4 [.d (I 0), .d (I 0), .d (I 0), .d (I 0), .d (I 0), .d (I 0), .d (I 0), .d (.bool false), .d (I 0), .d (I 0), .d (I 0)])]) (fun _ => True) ?_ ?_
        · conv => whnf
          refine Side.mk rfl ?_
          conv => whnf
          refine Side.mk rfl ?_
          conv => whnf
          refine Br.mk (fun hc44 => ?_) (fun hc44 => ?_)
          · replace hx13 := ite_f hc44 hx13
            conv => whnf
            refine Br.mk (fun hc45 => ?_) (fun hc45 => ?_)
            · replace hx13 := ite_t hc45 hx13
              cases hx13
              conv => whnf
              refine ⟨(), trivial, Sub.eq rfl ?_ ?_⟩
              · repeat ((conv => whnf); refine Need.mk rfl ?_)
                exact trivial
              · conv => whnf
                refine Need.mk (OLe.refl _) ?_
                conv => whnf
                refine Need.mk (OLe.refl _) ?_
                exact trivial
            · replace hx13 := ite_f hc45 hx13
              cases hx13
              conv => whnf
              refine ⟨(), trivial, Sub.eq rfl ?_ ?_⟩
              · repeat ((conv => whnf); refine Need.mk rfl ?_)
                exact trivial
              · conv => whnf
                refine Need.mk (OLe.refl _) ?_
                conv => whnf
                refine Need.mk (OLe.refl _) ?_
                exact trivial
          · replace hx13 := ite_t hc44 hx13
            cases hx13
            conv => whnf
            refine ⟨(), trivial, Sub.eq rfl ?_ ?_⟩
            · repeat ((conv => whnf); refine Need.mk rfl ?_)
              exact trivial
            · conv => whnf
              refine Need.mk (OLe.refl _) ?_
              conv => whnf
              refine Need.mk (OLe.refl _) ?_
              exact trivial
        · rintro _ _
          conv => whnf
          refine Br.mk (fun hc46 => ?_) (fun hc46 => ?_)
          · replace hx12 := ite_t hc46 hx12
            conv => whnf
            refine Side.mk rfl ?_
            conv => whnf
            refine Side.mk rfl ?_
            conv => whnf
            refine Side.mk rfl ?_
            conv => whnf
            refine Side.mk rfl ?_
            conv => whnf
            refine Side.mk rfl ?_
            cases hx12
            conv => whnf
            refine ⟨(), trivial, Sub.eq rfl ?_ ?_⟩
            · repeat ((conv => whnf); refine Need.mk rfl ?_)
              exact trivial
            · conv => whnf
              refine Need.mk (OLe.refl _) ?_
              conv => whnf
              refine Need.mk (OLe.refl _) ?_
              exact trivial
          · replace hx12 := ite_f hc46 hx12
            cases hx12
            conv => whnf
            refine ⟨(), trivial, Sub.eq rfl ?_ ?_⟩
            · repeat ((conv => whnf); refine Need.mk rfl ?_)
              exact trivial
            · conv => whnf
              refine Need.mk (OLe.refl _) ?_
              conv => whnf
              refine Need.mk (OLe.refl _) ?_
              exact trivial
      · rintro _ _
        conv => whnf
        refine Side.mk rfl ?_
        conv => whnf
        refine Side.mk rfl ?_
        conv => whnf
        refine Side.mk rfl ?_
        conv => whnf
        cases h
        exact rfl

theorem frameLawBadC {N : Nat} (hN : N ≤ 1073741824) {l1 : FrameLaw} {sheet1 : List Int} {r : Int} (h : frameLawBad N l1 sheet1 = some r) :
    ACalls Try.prog 43 [.d (.agg [I l1.fFrames, I l1.fPins, I l1.fBalls, I l1.fTap]), .d (.list 1 (List.map I sheet1))] [] fun e os => e = .ret (.d (I r)) ∧ os = [] := by
  refine acalls_f (fresh := false) tt_ok dr_ok ⟨[2], [], [], [], [1002], 0⟩ Try.func43 rfl Try.call43 rfl ?_
  unfold frameLawBad at h
  conv => whnf
  intro b2
  conv => whnf
  refine Side.mk rfl ?_
  obtain ⟨c9, hx53, h⟩ := obind h
  conv => whnf
  refine SeqG.mk Unit (fun y => [(5, .ptr 5 b2 0)]) (fun y => [(5, .cells b2 [.d (I c9)])]) (fun _ => True) ?_ ?_
  · obtain ⟨⟨ra16, rb16⟩, hx55, hx53⟩ := obind hx53
    conv => whnf
    refine CallG.pure _ (frameLawBallsC hN hx55) ?_
    conv => whnf
    intro lp2 rc14
    refine IterG.mk _ _ ⟨[], [], [], [], [], 2000⟩ Try.func65 rfl Try.call65 rfl rfl ?_
    obtain ⟨r28, hx57, hx53⟩ := obind hx53
    conv => whnf
    refine CallG.pure _ (frameLawBeginC hN hx57) ?_
    conv => whnf
    intro b18
    conv => whnf
    refine Side.mk rfl ?_
    conv => whnf
    refine Ln.mk _ (List.length_map _) ?_
    conv => whnf
    refine LoopG.mk (Nat × (Int × Int × FramePlay × Int)) (fun y => [(0, .fn (.yield lp2) [] []), (4, .ptr 2004 b18 0), (13, .d (.list 1 (List.map I rb16))), (14, .d (I y.2.1)), (15, .d (I y.2.2.1))]) (fun y => [(2004, .cells b18 [.d (I y.2.2.2.1.fLaw.fFrames), .d (I y.2.2.2.1.fLaw.fPins), .d (I y.2.2.2.1.fLaw.fBalls), .d (I y.2.2.2.1.fLaw.fTap), .d (I y.2.2.2.1.fAt.fFrame), .d (I y.2.2.2.1.fAt.fThrown), .d (I y.2.2.2.1.fAt.fStanding), .d (.bool y.2.2.2.1.fAt.fFresh), .d (I y.2.2.2.1.fAt.fNeed), .d (I y.2.2.2.1.fAt.fAfter.a0), .d (I y.2.2.2.1.fAt.fAfter.a1)]), (5, .cells b2 [.d (I y.2.2.2.2)]), (1000, .loop lp2 rc14 none)]) (fun y => loopN (fun rr x => frameLawBad_b1 N rb16 rr x.1 x.2.1 x.2.2.1 x.2.2.2) y.1 y.2 = some c9) (fun y => y.1) (N, ((rb16.length : Int), 0, r28, 0)) hx53 (Sub.eq rfl ?_ ?_) ?_
    · repeat ((conv => whnf); refine Need.mk rfl ?_)
      exact trivial
    · conv => whnf
      refine Need.mk (OLe.refl _) ?_
      conv => whnf
      refine Need.mk (OLe.refl _) ?_
      conv => whnf
      refine Need.mk (OLe.refl _) ?_
      exact trivial
    · rintro ⟨n2, ⟨v17, v18, c16, c17⟩⟩ hl2
      obtain ⟨n2, rfl, hl2⟩ := loopN_some hl2
      replace hl2 : frameLawBad_b1 N rb16 (loopN (fun rr x => frameLawBad_b1 N rb16 rr x.1 x.2.1 x.2.2.1 x.2.2.2) n2) v17 v18 c16 c17 = some c9 := hl2
      rw [frameLawBad_b1] at hl2
      conv => whnf
      refine Br.mk (fun hc32 => ?_) (fun hc32 => ?_)
      · replace hl2 := ite_t hc32 hl2
        obtain ⟨x24, hx99, hl2⟩ := obind hl2
        conv => whnf
        refine Side.mk rfl ⟨_, idx_0 hx99, idx_map _ hx99, ?_⟩
        conv => whnf
        refine Side.mk rfl ?_
        obtain ⟨r52, hx103, hl2⟩ := obind hl2
        conv => whnf
        refine CallG.pure _ (framePlayMayC hN hx103) ?_
        conv => whnf
        refine Br.mk (fun hc36 => ?_) (fun hc36 => ?_)
        · replace hl2 := ite_t hc36 hl2
          conv => whnf
          refine Side.mk ⟨rfl, rfl⟩ ?_
          cases hl2
          conv => whnf
          refine ⟨(), trivial, Sub.eq rfl ?_ ?_⟩
          · repeat ((conv => whnf); refine Need.mk rfl ?_)
            exact trivial
          · conv => whnf
            refine Need.mk (OLe.refl _) ?_
            exact trivial
        · replace hl2 := ite_f hc36 hl2
          conv => whnf
          refine Side.mk rfl ?_
          obtain ⟨⟨ra28, rb28, rc26⟩, hx105, hl2⟩ := obind hl2
          conv => whnf
          refine CallG.pure _ (framePlayNextC hN hx105) ?_
          conv => whnf
          intro b30
          conv => whnf
          refine Side.mk rfl ?_
          conv => whnf
          refine Side.mk rfl ?_
          conv => whnf
          refine Side.mk rfl ?_
          conv => whnf
          refine Side.mk ⟨rfl, rfl, rfl⟩ ?_
          conv => whnf
          refine Side.mk rfl ?_
          conv => whnf
          refine Side.mk rfl ?_
          conv => whnf
          refine Side.mk rfl ?_
          conv => whnf
          refine ⟨(n2, (v17, w64 (v18 + 1), ra28, w64 (v18 + 1))), hl2, Sub.eq rfl ?_ ?_, Nat.lt_succ_self _⟩
          · repeat ((conv => whnf); refine Need.mk rfl ?_)
            exact trivial
          · conv => whnf
            refine Need.mk (OLe.refl _) ?_
            conv => whnf
            refine Need.mk (OLe.refl _) ?_
            conv => whnf
            refine Need.mk (OLe.refl _) ?_
            exact trivial
      · replace hl2 := ite_f hc32 hl2
        conv => whnf
        refine Side.mk ⟨rfl, rfl⟩ ?_
        cases hl2
        conv => whnf
        refine ⟨(), trivial, Sub.eq rfl ?_ ?_⟩
        · repeat ((conv => whnf); refine Need.mk rfl ?_)
          exact trivial
        · conv => whnf
          refine Need.mk (OLe.refl _) ?_
          exact trivial
  · rintro _ _
    conv => whnf
    refine Side.mk rfl ?_
    conv => whnf
    cases h
    exact rfl

theorem frameLawCheckC {N : Nat} (hN : N ≤ 1073741824) {l1 : FrameLaw} {sheet1 : List Int} {r : Int} (h : frameLawCheck N l1 sheet1 = some r) :
    ACalls Try.prog 42 [.d (.agg [I l1.fFrames, I l1.fPins, I l1.fBalls, I l1.fTap]), .d (.list 1 (List.map I sheet1))] [] fun e os => e = .ret (.d (I r)) ∧ os = [] := by
  refine acalls_f (fresh := false) tt_ok dr_ok ⟨[2], [], [], [], [], 0⟩ Try.func42 rfl Try.call42 rfl ?_
  unfold frameLawCheck at h
  obtain ⟨r6, hx6, h⟩ := obind h
  conv => whnf
  refine CallG.pure _ (frameCheckLawC hN hx6) ?_
  conv => whnf
  refine Br.mk (fun hc4 => ?_) (fun hc4 => ?_)
  · replace h := ite_t hc4 h
    conv => whnf
    cases h
    exact rfl
  · replace h := ite_f hc4 h
    conv => whnf
    refine Ln.mk _ (List.length_map _) ?_
    conv => whnf
    refine Br.mk (fun hc5 => ?_) (fun hc5 => ?_)
    · replace h := ite_t hc5 h
      conv => whnf
      cases h
      exact rfl
    · replace h := ite_f hc5 h
      obtain ⟨r8, hx8, h⟩ := obind h
      conv => whnf
      refine CallG.pure _ (frameLawBadC hN hx8) ?_
      conv => whnf
      refine Ln.mk _ (List.length_map _) ?_
      conv => whnf
      refine Br.mk (fun hc6 => ?_) (fun hc6 => ?_)
      · replace h := ite_t hc6 h
        conv => whnf
        cases h
        exact rfl
      · replace h := ite_f hc6 h
        conv => whnf
        cases h
        exact rfl

theorem frameSumC {N : Nat} (hN : N ≤ 1073741824) {l1 : List Int} {r : Int} (h : frameSum N l1 = some r) :
    ACalls Try.prog 64 [.d (.list 1 (List.map I l1))] [] fun e os => e = .ret (.d (I r)) ∧ os = [] := by
  refine acalls_f (fresh := false) tt_ok dr_ok ⟨[], [], [], [], [1001], 0⟩ Try.func64 rfl Try.call64 rfl ?_
  unfold frameSum at h
  obtain ⟨n6, hx13, h⟩ := obind h
  conv => whnf
  refine SeqG.mk Unit (fun y => [(2, .d (I n6))]) (fun y => []) (fun _ => True) ?_ ?_
  · conv => whnf
    refine Ln.mk _ (List.length_map _) ?_
    conv => whnf
    refine LoopG.mk (Nat × (Int × Int × Int)) (fun y => [(2, .d (I y.2.1)), (5, .d (.list 1 (List.map I l1))), (6, .d (I y.2.2.1)), (7, .d (I y.2.2.2))]) (fun y => []) (fun y => loopN (fun rr x => frameSum_b1 N l1 rr x.1 x.2.1 x.2.2) y.1 y.2 = some n6) (fun y => y.1) (N, (0, (l1.length : Int), 0)) hx13 (Sub.eq rfl ?_ ?_) ?_
    · repeat ((conv => whnf); refine Need.mk rfl ?_)
      exact trivial
    · exact trivial
    · rintro ⟨n11, ⟨n10, v17, v18⟩⟩ hl2
      obtain ⟨n11, rfl, hl2⟩ := loopN_some hl2
      replace hl2 : frameSum_b1 N l1 (loopN (fun rr x => frameSum_b1 N l1 rr x.1 x.2.1 x.2.2) n11) n10 v17 v18 = some n6 := hl2
      rw [frameSum_b1] at hl2
      conv => whnf
      refine Br.mk (fun hc12 => ?_) (fun hc12 => ?_)
      · replace hl2 := ite_t hc12 hl2
        obtain ⟨x24, hx25, hl2⟩ := obind hl2
        conv => whnf
        refine Side.mk rfl ⟨_, idx_0 hx25, idx_map _ hx25, ?_⟩
        conv => whnf
        refine ⟨(n11, (w64 (n10 + x24), v17, w64 (v18 + 1))), hl2, Sub.eq rfl ?_ ?_, Nat.lt_succ_self _⟩
        · repeat ((conv => whnf); refine Need.mk rfl ?_)
          exact trivial
        · exact trivial
      · replace hl2 := ite_f hc12 hl2
        cases hl2
        conv => whnf
        refine ⟨(), trivial, Sub.eq rfl ?_ ?_⟩
        · repeat ((conv => whnf); refine Need.mk rfl ?_)
          exact trivial
        · exact trivial
  · rintro _ _
    conv => whnf
    cases h
    exact rfl

theorem frameLawCountsC {N : Nat} (hN : N ≤ 1073741824) {a1 : FrameLaw} {a2 : List Int} {r : (List Int)} (h : frameLawCounts N a1 a2 = some r) :
    ACalls Try.prog 48 [.d (.agg [I a1.fFrames, I a1.fPins, I a1.fBalls, I a1.fTap]), .d (.list 1 (List.map I a2))] [] fun e os => e = .ret (.d (.list 1 (List.map I r))) ∧ os = [] := by
  refine acalls_f (fresh := false) tt_ok dr_ok ⟨[2], [], [], [], [13, 1004, 1016, 1022], 0⟩ Try.func48 rfl Try.call48 rfl ?_
  unfold frameLawCounts at h
  conv => whnf
  intro b2
  conv => whnf
  intro b5
  conv => whnf
  intro b6
  obtain ⟨l2, hx2, h⟩ := obind h
  conv => whnf
  refine Need.mk (mkl_need hN hx2 (by decide)) (Eqv.mk (List.map I l2) (mkl_map _ hx2 rfl) ?_)
  conv => whnf
  intro hd2
  conv => whnf
  intro b8
  conv => whnf
  refine Side.mk rfl ?_
  obtain ⟨⟨l283, l284, l285⟩, hx475, h⟩ := obind h
  conv => whnf
  refine SeqG.mk (Value × Value × Value) (fun y => [(4, .nils 1), (5, .ptr 5 b2 0), (6, .ptr 6 b5 0), (7, .ptr 7 b6 0)]) (fun y => [(5, .cells b2 [.sl 28 y.1]), (6, .cells b5 [.sl 47 y.2.1]), (7, .cells b6 [.sl 50 y.2.2]), (28, .arr y.1 3 1 true (List.map I l283)), (47, .arr y.2.1 3 1 false (List.map I l284)), (50, .arr y.2.2 3 1 false (List.map I l285))]) (fun _ => True) ?_ ?_
  · obtain ⟨⟨ra16, rb16⟩, hx477, hx475⟩ := obind hx475
    conv => whnf
    refine CallG.pure _ (frameLawBallsC hN hx477) ?_
    conv => whnf
    intro lp2 rc14
    refine IterG.mk _ _ ⟨[], [], [], [], [7], 2000⟩ Try.func65 rfl Try.call65 rfl rfl ?_
    obtain ⟨r76, hx479, hx475⟩ := obind hx475
    conv => whnf
    refine CallG.pure _ (frameLawBeginC hN hx479) ?_
    conv => whnf
    intro b48
    conv => whnf
    refine Side.mk rfl ?_
    conv => whnf
    refine Ln.mk _ (List.length_map _) ?_
    conv => whnf
    refine LoopG.mk (Nat × (Int × Int × FramePlay × (List Int) × (List Int) × (List Int) × (List Int)) × Value × Value × Value) (fun y => [(0, .fn (.yield lp2) [] []), (4, .ptr 2004 b48 0), (13, .d (.list 1 (List.map I rb16))), (14, .d (I y.2.1.1)), (15, .d (I y.2.1.2.1))]) (fun y => [(2004, .cells b48 [.d (I y.2.1.2.2.1.fLaw.fFrames), .d (I y.2.1.2.2.1.fLaw.fPins), .d (I y.2.1.2.2.1.fLaw.fBalls), .d (I y.2.1.2.2.1.fLaw.fTap), .d (I y.2.1.2.2.1.fAt.fFrame), .d (I y.2.1.2.2.1.fAt.fThrown), .d (I y.2.1.2.2.1.fAt.fStanding), .d (.bool y.2.1.2.2.1.fAt.fFresh), .d (I y.2.1.2.2.1.fAt.fNeed), .d (I y.2.1.2.2.1.fAt.fAfter.a0), .d (I y.2.1.2.2.1.fAt.fAfter.a1)]), (5, .cells b2 [.sl 28 y.2.2.1]), (6, .cells b5 [.sl 47 y.2.2.2.1]), (7, .cells b6 [.sl 50 y.2.2.2.2]), (8, .cells b8 [.sl 18 hd2]), (1000, .loop lp2 rc14 none), (28, .arr y.2.2.1 3 1 true (List.map I y.2.1.2.2.2.1)), (47, .arr y.2.2.2.1 3 1 false (List.map I y.2.1.2.2.2.2.1)), (50, .arr y.2.2.2.2 3 1 false (List.map I y.2.1.2.2.2.2.2.1)), (18, .arr hd2 3 1 false (List.map I y.2.1.2.2.2.2.2.2))]) (fun y => loopN (fun rr x => frameLawCounts_b1 N a1 rb16 rr x.1 x.2.1 x.2.2.1 x.2.2.2.1 x.2.2.2.2.1 x.2.2.2.2.2.1 x.2.2.2.2.2.2) y.1 y.2.1 = some (l283, l284, l285)) (fun y => y.1) (N, ((rb16.length : Int), 0, r76, [], [], [], l2), (.slice none 0 0), (.slice none 0 0), (.slice none 0 0)) hx475 (Sub.eq rfl ?_ ?_) ?_
    · repeat ((conv => whnf); refine Need.mk rfl ?_)
      exact trivial
    · conv => whnf
      refine Need.mk (OLe.refl _) ?_
      conv => whnf
      refine Need.mk (OLe.cells _ _ _ (by repeat (first | exact trivial | ((conv => whnf); refine Need.mk rfl ?_)))) ?_
      conv => whnf
      refine Need.mk (OLe.cells _ _ _ (by repeat (first | exact trivial | ((conv => whnf); refine Need.mk rfl ?_)))) ?_
      conv => whnf
      refine Need.mk (OLe.cells _ _ _ (by repeat (first | exact trivial | ((conv => whnf); refine Need.mk rfl ?_)))) ?_
      conv => whnf
      refine Need.mk (OLe.refl _) ?_
      conv => whnf
      refine Need.mk (OLe.refl _) ?_
      conv => whnf
      refine Need.mk (OLe.nil _ _ _ _) ?_
      conv => whnf
      refine Need.mk (OLe.nil _ _ _ _) ?_
      conv => whnf
      refine Need.mk (OLe.nil _ _ _ _) ?_
      conv => whnf
      refine Need.mk (OLe.refl _) ?_
      exact trivial
    · rintro ⟨n2, ⟨v57, v58, c8, l474, l475, l476, l477⟩, hd567, hd568, hd569⟩ hl2
      obtain ⟨n2, rfl, hl2⟩ := loopN_some hl2
      replace hl2 : frameLawCounts_b1 N a1 rb16 (loopN (fun rr x => frameLawCounts_b1 N a1 rb16 rr x.1 x.2.1 x.2.2.1 x.2.2.2.1 x.2.2.2.2.1 x.2.2.2.2.2.1 x.2.2.2.2.2.2) n2) v57 v58 c8 l474 l475 l476 l477 = some (l283, l284, l285) := hl2
      rw [frameLawCounts_b1] at hl2
      conv => whnf
      refine Br.mk (fun hc272 => ?_) (fun hc272 => ?_)
      · replace hl2 := ite_t hc272 hl2
        obtain ⟨x288, hx871, hl2⟩ := obind hl2
        conv => whnf
        refine Side.mk rfl ⟨_, idx_0 hx871, idx_map _ hx871, ?_⟩
        conv => whnf
        refine Side.mk rfl ?_
        obtain ⟨r140, hx875, hl2⟩ := obind hl2
        conv => whnf
        refine CallG.pure _ (framePlayMayC hN hx875) ?_
        conv => whnf
        refine Br.mk (fun hc300 => ?_) (fun hc300 => ?_)
        · replace hl2 := ite_t hc300 hl2
          conv => whnf
          refine Side.mk ⟨rfl, rfl⟩ ?_
          cases hl2
          conv => whnf
          refine ⟨(hd567, hd568, hd569), trivial, Sub.eq rfl ?_ ?_⟩
          · repeat ((conv => whnf); refine Need.mk rfl ?_)
            exact trivial
          · conv => whnf
            refine Need.mk (OLe.refl _) ?_
            conv => whnf
            refine Need.mk (OLe.refl _) ?_
            conv => whnf
            refine Need.mk (OLe.refl _) ?_
            conv => whnf
            refine Need.mk (OLe.refl _) ?_
            conv => whnf
            refine Need.mk (OLe.refl _) ?_
            conv => whnf
            refine Need.mk (OLe.refl _) ?_
            exact trivial
        · replace hl2 := ite_f hc300 hl2
          conv => whnf
          refine Side.mk rfl ?_
          obtain ⟨⟨ra28, rb28, rc26⟩, hx877, hl2⟩ := obind hl2
          conv => whnf
          refine CallG.pure _ (framePlayNextC hN hx877) ?_
          conv => whnf
          intro b80
          conv => whnf
          refine Side.mk rfl ?_
          obtain ⟨⟨l553, l554, l555, l556⟩, hx930, hl2⟩ := obind hl2
          conv => whnf
          refine SeqG.mk (Value × Value × Value) (fun y => [(0, .fn (.yield lp2) [] []), (4, .ptr 2004 b48 0), (8, .ptr 2008 b80 0), (13, .d (.list 1 (List.map I rb16))), (14, .d (I v57)), (15, .d (I v58)), (43, .b false)]) (fun y => [(2004, .cells b48 [.d (I c8.fLaw.fFrames), .d (I c8.fLaw.fPins), .d (I c8.fLaw.fBalls), .d (I c8.fLaw.fTap), .d (I c8.fAt.fFrame), .d (I c8.fAt.fThrown), .d (I c8.fAt.fStanding), .d (.bool c8.fAt.fFresh), .d (I c8.fAt.fNeed), .d (I c8.fAt.fAfter.a0), .d (I c8.fAt.fAfter.a1)]), (2008, .cells b80 [.d (I ra28.fLaw.fFrames), .d (I ra28.fLaw.fPins), .d (I ra28.fLaw.fBalls), .d (I ra28.fLaw.fTap), .d (I ra28.fAt.fFrame), .d (I ra28.fAt.fThrown), .d (I ra28.fAt.fStanding), .d (.bool ra28.fAt.fFresh), .d (I ra28.fAt.fNeed), .d (I ra28.fAt.fAfter.a0), .d (I ra28.fAt.fAfter.a1)]), (5, .cells b2 [.sl 28 y.1]), (6, .cells b5 [.sl 47 y.2.1]), (7, .cells b6 [.sl 50 y.2.2]), (8, .cells b8 [.sl 18 hd2]), (1000, .loop lp2 rc14 none), (28, .arr y.1 3 1 true (List.map I l553)), (47, .arr y.2.1 3 1 false (List.map I l554)), (50, .arr y.2.2 3 1 false (List.map I l555)), (18, .arr hd2 3 1 false (List.map I l556))]) (fun _ => True) ?_ ?_
          · conv => whnf
            refine Side.mk rfl ?_
            conv => whnf
            refine Side.mk rfl ?_
            conv => whnf
            refine Side.mk ⟨rfl, rfl, rfl⟩ ?_
            conv => whnf
            intro b84
            conv => whnf
            refine Side.mk rfl ?_
            conv => whnf
            refine Side.mk rfl ?_
            conv => whnf
            refine Side.mk rfl ?_
            conv => whnf
            intro hd668
            obtain ⟨l558, hx932, hx930⟩ := obind hx930
            conv => whnf
            refine Side.mk ⟨rfl, rfl⟩ ?_
            conv => whnf
            refine Side.mk ⟨rfl, rfl, rfl⟩ (Need.mk (app_need hN hx932 (by decide)) (Eqv.mk (List.map I l558) (app_map _ hx932) ?_))
            conv => whnf
            intro hd669
            conv => whnf
            refine Side.mk rfl ?_
            conv => whnf
            refine Side.mk rfl ?_
            conv => whnf
            refine Side.mk rfl ?_
            obtain ⟨x308, hx934, hx930⟩ := obind hx930
            conv => whnf
            refine Side.mk ⟨rfl, rfl⟩ (Need.mk (idx_need _ hx934) ?_)
            conv => whnf
            refine Side.mk ⟨rfl, rfl⟩ ⟨_, Int.natCast_nonneg _, idx_el _ hx934, ?_⟩
            conv => whnf
            refine Side.mk ⟨rfl, rfl⟩ (Need.mk (idx_need _ hx934) ?_)
            conv => whnf
            refine Side.mk ⟨rfl, rfl⟩ ⟨_, Int.natCast_nonneg _, idx_el _ hx934, ?_⟩
            conv => whnf
            refine Eqv.mk (List.map I (List.set l477 (Int.toNat c8.fAt.fFrame) (w64 (x308 + 1)))) (set_map _ _ _ _ rfl) ?_
            conv => whnf
            refine Side.mk rfl ?_
            conv => whnf
            refine Side.mk rfl ?_
            conv => whnf
            refine Br.mk (fun hc319 => ?_) (fun hc319 => ?_)
            · replace hx930 := ite_t hc319 hx930
              conv => whnf
              refine Side.mk rfl ?_
              conv => whnf
              intro hd672
              obtain ⟨l560, hx936, hx930⟩ := obind hx930
              conv => whnf
              refine Side.mk ⟨rfl, rfl⟩ ?_
              conv => whnf
              refine Side.mk ⟨rfl, rfl, rfl⟩ (Need.mk (app_need hN hx936 (by decide)) (Eqv.mk (List.map I l560) (app_map _ hx936) ?_))
              conv => whnf
              intro hd673
              conv => whnf
              refine Side.mk rfl ?_
              conv => whnf
              refine Side.mk rfl ?_
              conv => whnf
              intro hd676
              obtain ⟨l562, hx938, hx930⟩ := obind hx930
              conv => whnf
              refine Side.mk ⟨rfl, rfl⟩ ?_
              conv => whnf
              refine Side.mk ⟨rfl, rfl, rfl⟩ (Need.mk (app_need hN hx938 (by decide)) (Eqv.mk (List.map I l562) (app_map _ hx938) ?_))
              conv => whnf
              intro hd677
              conv => whnf
              refine Side.mk rfl ?_
              obtain ⟨x310, hx942, hx930⟩ := obind hx930
              obtain ⟨l564, hx943, hx930⟩ := obind hx930
              obtain ⟨r148, hx944, hx930⟩ := obind hx930
              conv => whnf
              refine DrawG.mk (.take 0 (.take 1 (.take 2 (.take 3 (.take 4 (.take 5 (.take 6 (.take 7 (.take 8 (.alt 9 [7, 6, 5, 4, 3, 2, 1] (.alt 10 [7, 6, 5, 4, 3, 2, 1] (.take 11 .done) .nil) .nil)))))))))) (by kernel_rfl) ?_
              conv => whnf
              refine Side.mk rfl ?_
              conv => whnf
              refine Side.mk rfl ?_
              conv => whnf
              refine Side.mk rfl ?_
              conv => whnf
              refine Side.mk ⟨rfl, rfl⟩ (Need.mk (idx_need _ hx942) ?_)
              conv => whnf
              refine Side.mk ⟨rfl, rfl⟩ ⟨_, Int.natCast_nonneg _, idx_el _ hx942, ?_⟩
              conv => whnf
              refine Both.mk ?_ trivial
              conv => whnf
              refine Side.mk rfl ?_
              conv => whnf
              refine Need.mk (slc_needL _ hx943) (Eqv.mk (List.map I l564) (slc_mapL _ hx943) ?_)
              conv => whnf
              refine Side.mk ⟨rfl, rfl⟩ ⟨_, Int.natCast_nonneg _, idx_el _ hx942, ?_⟩
              conv => whnf
              refine Need.mk (AV.le_refl _) ?_
              conv => whnf
              refine Side.mk ⟨rfl, rfl⟩ (Need.mk (idx_need _ hx942) ?_)
              conv => whnf
              refine Need.mk (AV.le_refl _) ?_
              conv => whnf
              refine Side.mk rfl ?_
              conv => whnf
              refine Need.mk (AV.le_refl _) ?_
              conv => whnf
              refine Need.mk (AV.le_refl _) ?_
              conv => whnf
              refine Side.mk rfl ?_
              conv => whnf
              refine Need.mk (AV.le_refl _) ?_
              conv => whnf
              refine Need.mk (AV.le_refl _) ?_
              conv => whnf
              refine Need.mk (AV.le_refl _) ?_
              conv => whnf
              refine Both.mk ?_ trivial
              conv => whnf
              refine CallG.pure _ (frameSumC hN hx944) ?_
              conv => whnf
              refine Side.mk ⟨rfl, rfl⟩ ⟨_, Int.natCast_nonneg _, idx_el _ hx942, ?_⟩
              conv => whnf
              refine Need.mk (AV.le_refl _) ?_
              conv => whnf
              refine Side.mk ⟨rfl, rfl⟩ (Need.mk (idx_need _ hx942) ?_)
              conv => whnf
              refine Need.mk (AV.le_refl _) ?_
              conv => whnf
              refine Side.mk rfl ?_
              conv => whnf
              refine Need.mk (AV.le_refl _) ?_
              conv => whnf
              refine Need.mk (AV.le_refl _) ?_
              conv => whnf
              refine Side.mk rfl ?_
              conv => whnf
              refine Need.mk (AV.le_refl _) ?_
              conv => whnf
              refine Need.mk (AV.le_refl _) ?_
              conv => whnf
              refine Need.mk (AV.le_refl _) ?_
              obtain ⟨⟨v66, l565⟩, hx945, hx930⟩ := obind hx930
              conv => whnf
              refine SeqG.mk Unit (fun y => [(7, .ptr 7 b6 0), (8, .ptr 8 b8 0), (10, .ptr 10 b84 0), (81, .d (.bool v66))]) (fun y => [(7, .cells b6 [.sl 50 hd677]), (8, .cells b8 [.sl 18 hd2]), (10, .cells b84 [.d (I x288), .d (I c8.fAt.fFrame), .d (I rb28), .d (I ra28.fLaw.fFrames), .d (I ra28.fLaw.fPins), .d (I ra28.fLaw.fBalls), .d (I ra28.fLaw.fTap), .d (I ra28.fAt.fFrame), .d (I ra28.fAt.fThrown), .d (I ra28.fAt.fStanding), .d (.bool ra28.fAt.fFresh), .d (I ra28.fAt.fNeed), .d (I ra28.fAt.fAfter.a0), .d (I ra28.fAt.fAfter.a1)]), (5, .cells b2 [.sl 28 hd669]), (6, .cells b5 [.sl 47 hd673]), (2004, .cells b48 [.d (I c8.fLaw.fFrames), .d (I c8.fLaw.fPins), .d (I c8.fLaw.fBalls), .d (I c8.fLaw.fTap), .d (I c8.fAt.fFrame), .d (I c8.fAt.fThrown), .d (I c8.fAt.fStanding), .d (.bool c8.fAt.fFresh), .d (I c8.fAt.fNeed), .d (I c8.fAt.fAfter.a0), .d (I c8.fAt.fAfter.a1)]), (2008, .cells b80 [.d (I ra28.fLaw.fFrames), .d (I ra28.fLaw.fPins), .d (I ra28.fLaw.fBalls), .d (I ra28.fLaw.fTap), .d (I ra28.fAt.fFrame), .d (I ra28.fAt.fThrown), .d (I ra28.fAt.fStanding), .d (.bool ra28.fAt.fFresh), .d (I ra28.fAt.fNeed), .d (I ra28.fAt.fAfter.a0), .d (I ra28.fAt.fAfter.a1)]), (50, .arr hd677 3 1 false (List.map I l562)), (18, .arr hd2 3 1 false (List.map I l565)), (28, .arr hd669 3 1 true (List.map I l558)), (47, .arr hd673 3 1 false (List.map I l560))]) (fun _ => True) ?_ ?_
              · conv => whnf
                refine Side.mk rfl ?_
                conv => whnf
                refine Br.mk (fun hc322 => ?_) (fun hc322 => ?_)
                · replace hx945 := ite_t hc322 hx945
                  conv => whnf
                  refine Br.mk (fun hc323 => ?_) (fun hc323 => ?_)
                  · replace hx945 := ite_t hc323 hx945
                    conv => whnf
                    refine Side.mk rfl ?_
                    conv => whnf
                    refine Side.mk rfl ?_
                    conv => whnf
                    refine Side.mk ⟨rfl, rfl⟩ (Need.mk (idx_need _ hx942) ?_)
                    conv => whnf
                    refine Side.mk ⟨rfl, rfl⟩ ⟨_, Int.natCast_nonneg _, idx_el _ hx942, ?_⟩
                    cases hx945
                    conv => whnf
                    refine ⟨(), trivial, Sub.eq rfl ?_ ?_⟩
                    · repeat ((conv => whnf); refine Need.mk rfl ?_)
                      exact trivial
                    · conv => whnf
                      refine Need.mk (OLe.refl _) ?_
                      conv => whnf
                      refine Need.mk (OLe.refl _) ?_
                      conv => whnf
                      refine Need.mk (OLe.refl _) ?_
                      conv => whnf
                      refine Need.mk (OLe.refl _) ?_
                      conv => whnf
                      refine Need.mk (OLe.refl _) ?_
                      conv => whnf
                      refine Need.mk (OLe.refl _) ?_
                      conv => whnf
                      refine Need.mk (OLe.refl _) ?_
                      conv => whnf
                      refine Need.mk (OLe.refl _) ?_
                      conv => whnf
                      refine Need.mk (OLe.refl _) ?_
                      conv => whnf
                      refine Need.mk (OLe.refl _) ?_
                      conv => whnf
                      refine Need.mk (OLe.refl _) ?_
                      exact trivial
                  · replace hx945 := ite_f hc323 hx945
                    cases hx945
                    conv => whnf
                    refine ⟨(), trivial, Sub.eq rfl ?_ ?_⟩
                    · repeat ((conv => whnf); refine Need.mk rfl ?_)
                      exact trivial
                    · conv => whnf
                      refine Need.mk (OLe.refl _) ?_
                      conv => whnf
                      refine Need.mk (OLe.refl _) ?_
                      conv => whnf
                      refine Need.mk (OLe.refl _) ?_
                      conv => whnf
                      refine Need.mk (OLe.refl _) ?_
                      conv => whnf
                      refine Need.mk (OLe.refl _) ?_
                      conv => whnf
                      refine Need.mk (OLe.refl _) ?_
                      conv => whnf
                      refine Need.mk (OLe.refl _) ?_
                      conv => whnf
                      refine Need.mk (OLe.refl _) ?_
                      conv => whnf
                      refine Need.mk (OLe.refl _) ?_
                      conv => whnf
                      refine Need.mk (OLe.refl _) ?_
                      conv => whnf
                      refine Need.mk (OLe.refl _) ?_
                      exact trivial
                · replace hx945 := ite_f hc322 hx945
                  cases hx945
                  conv => whnf
                  refine ⟨(), trivial, Sub.eq rfl ?_ ?_⟩
                  · repeat ((conv => whnf); refine Need.mk rfl ?_)
                    exact trivial
                  · conv => whnf
                    refine Need.mk (OLe.refl _) ?_
                    conv => whnf
                    refine Need.mk (OLe.refl _) ?_
                    conv => whnf
                    refine Need.mk (OLe.refl _) ?_
                    conv => whnf
                    refine Need.mk (OLe.refl _) ?_
                    conv => whnf
                    refine Need.mk (OLe.refl _) ?_
                    conv => whnf
                    refine Need.mk (OLe.refl _) ?_
                    conv => whnf
                    refine Need.mk (OLe.refl _) ?_
                    conv => whnf
                    refine Need.mk (OLe.refl _) ?_
                    conv => whnf
                    refine Need.mk (OLe.refl _) ?_
                    conv => whnf
                    refine Need.mk (OLe.refl _) ?_
                    conv => whnf
                    refine Need.mk (OLe.refl _) ?_
                    exact trivial
              · rintro _ _
                conv => whnf
                refine Br.mk (fun hc324 => ?_) (fun hc324 => ?_)
                · replace hx930 := ite_t hc324 hx930
                  obtain ⟨x311, hx946, hx930⟩ := obind hx930
                  obtain ⟨x312, hx947, hx930⟩ := obind hx930
                  conv => whnf
                  refine DrawG.mk (.take 0 (.take 1 (.take 2 (.take 3 (.take 4 (.take 5 (.take 6 (.take 7 (.take 8 (.take 9 (.alt 10 [] .done .nil))))))))))) (by kernel_rfl) ?_
                  conv => whnf
                  refine Side.mk rfl ?_
                  conv => whnf
                  refine Side.mk rfl ?_
                  conv => whnf
                  refine Side.mk rfl ?_
                  conv => whnf
                  refine Side.mk rfl ?_
                  conv => whnf
                  refine Side.mk ⟨rfl, rfl⟩ (Need.mk (idx_need _ hx946) ?_)
                  conv => whnf
                  refine Side.mk ⟨rfl, rfl⟩ ⟨_, Int.natCast_nonneg _, idx_el _ hx946, ?_⟩
                  conv => whnf
                  refine Side.mk ⟨rfl, rfl⟩ (Need.mk (idx_need _ hx947) ?_)
                  conv => whnf
                  refine Both.mk ?_ trivial
                  conv => whnf
                  refine Side.mk ⟨rfl, rfl⟩ ⟨_, Int.natCast_nonneg _, idx_el _ hx947, ?_⟩
                  conv => whnf
                  refine Eqv.mk (List.map I (List.set l562 (Int.toNat c8.fAt.fFrame) (w64 (3 - x311)))) (set_map _ _ _ _ rfl) ?_
                  cases hx930
                  conv => whnf
                  refine ⟨(hd669, hd673, hd677), trivial, Sub.eq rfl ?_ ?_⟩
                  · repeat ((conv => whnf); refine Need.mk rfl ?_)
                    exact trivial
                  · conv => whnf
                    refine Need.mk (OLe.refl _) ?_
                    conv => whnf
                    refine Need.mk (OLe.refl _) ?_
                    conv => whnf
                    refine Need.mk (OLe.refl _) ?_
                    conv => whnf
                    refine Need.mk (OLe.refl _) ?_
                    conv => whnf
                    refine Need.mk (OLe.refl _) ?_
                    conv => whnf
                    refine Need.mk (OLe.refl _) ?_
                    conv => whnf
                    refine Need.mk (OLe.refl _) ?_
                    conv => whnf
                    refine Need.mk (OLe.refl _) ?_
                    conv => whnf
                    refine Need.mk (OLe.refl _) ?_
                    conv => whnf
                    refine Need.mk (OLe.refl _) ?_
                    conv => whnf
                    refine Need.mk (OLe.refl _) ?_
                    exact trivial
                · replace hx930 := ite_f hc324 hx930
                  cases hx930
                  conv => whnf
                  refine ⟨(hd669, hd673, hd677), trivial, Sub.eq rfl ?_ ?_⟩
                  · repeat ((conv => whnf); refine Need.mk rfl ?_)
                    exact trivial
                  · conv => whnf
                    refine Need.mk (OLe.refl _) ?_
                    conv => whnf
                    refine Need.mk (OLe.refl _) ?_
                    conv => whnf
                    refine Need.mk (OLe.refl _) ?_
                    conv => whnf
                    refine Need.mk (OLe.refl _) ?_
                    conv => whnf
                    refine Need.mk (OLe.refl _) ?_
                    conv => whnf
                    refine Need.mk (OLe.refl _) ?_
                    conv => whnf
                    refine Need.mk (OLe.refl _) ?_
                    conv => whnf
                    refine Need.mk (OLe.refl _) ?_
                    conv => whnf
                    refine Need.mk (OLe.refl _) ?_
                    conv => whnf
                    refine Need.mk (OLe.refl _) ?_
                    conv => whnf
                    refine Need.mk (OLe.refl _) ?_
                    exact trivial
            · replace hx930 := ite_f hc319 hx930
              cases hx930
              conv => whnf
              refine ⟨(hd669, hd568, hd569), trivial, Sub.eq rfl ?_ ?_⟩
              · repeat ((conv => whnf); refine Need.mk rfl ?_)
                exact trivial
              · conv => whnf
                refine Need.mk (OLe.refl _) ?_
                conv => whnf
                refine Need.mk (OLe.refl _) ?_
                conv => whnf
                refine Need.mk (OLe.refl _) ?_
                conv => whnf
                refine Need.mk (OLe.refl _) ?_
                conv => whnf
                refine Need.mk (OLe.refl _) ?_
                conv => whnf
                refine Need.mk (OLe.refl _) ?_
                conv => whnf
                refine Need.mk (OLe.refl _) ?_
                conv => whnf
                refine Need.mk (OLe.refl _) ?_
                conv => whnf
                refine Need.mk (OLe.refl _) ?_
                conv => whnf
                refine Need.mk (OLe.refl _) ?_
                conv => whnf
                refine Need.mk (OLe.refl _) ?_
                exact trivial
          · rintro ⟨hd663, hd664, hd665⟩ _
            conv => whnf
            refine Side.mk rfl ?_
            conv => whnf
            refine Side.mk rfl ?_
            conv => whnf
            refine ⟨(n2, (v57, w64 (v58 + 1), ra28, l553, l554, l555, l556), hd663, hd664, hd665), hl2, Sub.eq rfl ?_ ?_, Nat.lt_succ_self _⟩
            · repeat ((conv => whnf); refine Need.mk rfl ?_)
              exact trivial
            · conv => whnf
              refine Need.mk (OLe.refl _) ?_
              conv => whnf
              refine Need.mk (OLe.refl _) ?_
              conv => whnf
              refine Need.mk (OLe.refl _) ?_
              conv => whnf
              refine Need.mk (OLe.refl _) ?_
              conv => whnf
              refine Need.mk (OLe.refl _) ?_
              conv => whnf
              refine Need.mk (OLe.refl _) ?_
              conv => whnf
              refine Need.mk (OLe.refl _) ?_
              conv => whnf
              refine Need.mk (OLe.refl _) ?_
              conv => whnf
              refine Need.mk (OLe.refl _) ?_
              conv => whnf
              refine Need.mk (OLe.refl _) ?_
              exact trivial
      · replace hl2 := ite_f hc272 hl2
        conv => whnf
        refine Side.mk ⟨rfl, rfl⟩ ?_
        cases hl2
        conv => whnf
        refine ⟨(hd567, hd568, hd569), trivial, Sub.eq rfl ?_ ?_⟩
        · repeat ((conv => whnf); refine Need.mk rfl ?_)
          exact trivial
        · conv => whnf
          refine Need.mk (OLe.refl _) ?_
          conv => whnf
          refine Need.mk (OLe.refl _) ?_
          conv => whnf
          refine Need.mk (OLe.refl _) ?_
          conv => whnf
          refine Need.mk (OLe.refl _) ?_
          conv => whnf
          refine Need.mk (OLe.refl _) ?_
          conv => whnf
          refine Need.mk (OLe.refl _) ?_
          exact trivial
  · rintro ⟨hd339, hd340, hd341⟩ _
    conv => whnf
    refine SeqG.mk ((List Int) × Value) (fun y => [(4, .sl 132 y.2)]) (fun y => [(132, .arr y.2 3 1 false (List.map I y.1))]) (fun y => frameLawCounts_k2 N y.1 = some r) ?_ ?_
    · conv => whnf
      refine Side.mk rfl ?_
      conv => whnf
      refine Side.mk rfl (Ln.mk _ (List.length_map _) ?_)
      conv => whnf
      refine LoopG.mk (Nat × (Int × Int × Int × (List Int)) × Value) (fun y => [(4, .sl 132 y.2.2), (5, .ptr 5 b2 0), (7, .ptr 7 b6 0), (12, .d (I y.2.1.1)), (92, .sl 47 hd340), (93, .d (I y.2.1.2.1)), (94, .d (I y.2.1.2.2.1))]) (fun y => [(132, .arr y.2.2 3 1 false (List.map I y.2.1.2.2.2)), (5, .cells b2 [.sl 28 hd339]), (7, .cells b6 [.sl 50 hd341]), (47, .arr hd340 3 1 false (List.map I l284)), (28, .arr hd339 3 1 true (List.map I l283)), (50, .arr hd341 3 1 false (List.map I l285))]) (fun y => loopN (fun rr x => frameLawCounts_b3 N l283 l284 l285 rr x.1 x.2.1 x.2.2.1 x.2.2.2) y.1 y.2.1 = some r) (fun y => y.1) (N, (0, (l284.length : Int), 0, []), (.slice none 0 0)) h (Sub.eq rfl ?_ ?_) ?_
      · repeat ((conv => whnf); refine Need.mk rfl ?_)
        exact trivial
      · conv => whnf
        refine Need.mk (OLe.nil _ _ _ _) ?_
        conv => whnf
        refine Need.mk (OLe.refl _) ?_
        conv => whnf
        refine Need.mk (OLe.refl _) ?_
        conv => whnf
        refine Need.mk (OLe.refl _) ?_
        conv => whnf
        refine Need.mk (OLe.refl _) ?_
        conv => whnf
        refine Need.mk (OLe.refl _) ?_
        exact trivial
      · rintro ⟨n4, ⟨v96, v97, v98, l614⟩, hd738⟩ hl4
        obtain ⟨n4, rfl, hl4⟩ := loopN_some hl4
        replace hl4 : frameLawCounts_b3 N l283 l284 l285 (loopN (fun rr x => frameLawCounts_b3 N l283 l284 l285 rr x.1 x.2.1 x.2.2.1 x.2.2.2) n4) v96 v97 v98 l614 = some r := hl4
        rw [frameLawCounts_b3] at hl4
        conv => whnf
        refine Br.mk (fun hc368 => ?_) (fun hc368 => ?_)
        · replace hl4 := ite_t hc368 hl4
          obtain ⟨x394, hx1120, hl4⟩ := obind hl4
          conv => whnf
          refine Side.mk ⟨rfl, rfl⟩ (Need.mk (idx_need _ hx1120) ?_)
          conv => whnf
          refine Side.mk ⟨rfl, rfl⟩ ⟨_, Int.natCast_nonneg _, idx_el _ hx1120, ?_⟩
          obtain ⟨x398, hx1124, hl4⟩ := obind hl4
          conv => whnf
          refine DrawG.mk (.take 0 (.take 1 (.take 2 (.take 3 (.take 4 (.take 5 (.take 6 (.take 7 (.take 8 .done))))))))) (by kernel_rfl) ?_
          conv => whnf
          refine Side.mk rfl ?_
          conv => whnf
          refine Side.mk ⟨rfl, rfl⟩ (Need.mk (idx_need _ hx1124) ?_)
          conv => whnf
          refine Side.mk ⟨rfl, rfl⟩ ⟨_, Int.natCast_nonneg _, idx_el _ hx1124, ?_⟩
          conv => whnf
          refine Side.mk rfl ?_
          conv => whnf
          refine Side.mk rfl (Ln.mk _ (List.length_map _) ?_)
          conv => whnf
          refine Br.mk (fun hc374 => ?_) (fun hc374 => ?_)
          · replace hl4 := ite_t hc374 hl4
            conv => whnf
            refine Side.mk rfl ?_
            conv => whnf
            cases hl4
            exact rfl
          · replace hl4 := ite_f hc374 hl4
            obtain ⟨l620, hx1127, hl4⟩ := obind hl4
            obtain ⟨r186, hx1128, hl4⟩ := obind hl4
            conv => whnf
            refine DrawG.mk (.take 0 (.take 1 (.take 2 (.take 3 (.take 4 (.take 5 (.take 6 (.take 7 (.alt 8 [6, 5, 4, 3, 2] (.alt 9 [6, 5, 4, 3, 2] (.take 10 .done) .nil) .nil))))))))) (by kernel_rfl) ?_
            conv => whnf
            refine Side.mk rfl ?_
            conv => whnf
            refine Side.mk rfl ?_
            conv => whnf
            refine Side.mk ⟨rfl, rfl⟩ (Need.mk (idx_need _ hx1124) ?_)
            conv => whnf
            refine Side.mk ⟨rfl, rfl⟩ ⟨_, Int.natCast_nonneg _, idx_el _ hx1124, ?_⟩
            conv => whnf
            refine Both.mk ?_ trivial
            conv => whnf
            refine Side.mk rfl ?_
            conv => whnf
            refine Need.mk (slc_need _ hx1127) (Eqv.mk (List.map I l620) (slc_map _ hx1127) ?_)
            conv => whnf
            refine Side.mk ⟨rfl, rfl⟩ ⟨_, Int.natCast_nonneg _, idx_el _ hx1124, ?_⟩
            conv => whnf
            refine Need.mk (AV.le_refl _) ?_
            conv => whnf
            refine Side.mk ⟨rfl, rfl⟩ (Need.mk (idx_need _ hx1124) ?_)
            conv => whnf
            refine Need.mk (AV.le_refl _) ?_
            conv => whnf
            refine Need.mk (AV.le_refl _) ?_
            conv => whnf
            refine Side.mk rfl ?_
            conv => whnf
            refine Need.mk (AV.le_refl _) ?_
            conv => whnf
            refine Need.mk (AV.le_refl _) ?_
            conv => whnf
            refine Both.mk ?_ trivial
            conv => whnf
            refine CallG.pure _ (frameSumC hN hx1128) ?_
            conv => whnf
            refine Side.mk ⟨rfl, rfl⟩ ⟨_, Int.natCast_nonneg _, idx_el _ hx1124, ?_⟩
            conv => whnf
            refine Need.mk (AV.le_refl _) ?_
            conv => whnf
            refine Side.mk ⟨rfl, rfl⟩ (Need.mk (idx_need _ hx1124) ?_)
            conv => whnf
            refine Need.mk (AV.le_refl _) ?_
            conv => whnf
            refine Need.mk (AV.le_refl _) ?_
            conv => whnf
            refine Side.mk rfl ?_
            conv => whnf
            refine Need.mk (AV.le_refl _) ?_
            conv => whnf
            refine Need.mk (AV.le_refl _) ?_
            obtain ⟨v100, hx1131, hl4⟩ := obind hl4
            conv => whnf
            refine SeqG.mk Unit (fun y => [(4, .sl 132 hd738), (5, .ptr 5 b2 0), (7, .ptr 7 b6 0), (14, .d (I x394)), (15, .d (I v100)), (92, .sl 47 hd340), (93, .d (I v97)), (94, .d (I v98))]) (fun y => [(132, .arr hd738 3 1 false (List.map I l614)), (5, .cells b2 [.sl 28 hd339]), (7, .cells b6 [.sl 50 hd341]), (47, .arr hd340 3 1 false (List.map I l284)), (28, .arr hd339 3 1 true (List.map I l283)), (50, .arr hd341 3 1 false (List.map I l285))]) (fun _ => True) ?_ ?_
            · conv => whnf
              refine Br.mk (fun hc376 => ?_) (fun hc376 => ?_)
              · replace hx1131 := ite_t hc376 hx1131
                obtain ⟨x400, hx1132, hx1131⟩ := obind hx1131
                conv => whnf
                refine Side.mk ⟨rfl, rfl⟩ (Need.mk (idx_need _ hx1132) ?_)
                conv => whnf
                refine Side.mk ⟨rfl, rfl⟩ ⟨_, Int.natCast_nonneg _, idx_el _ hx1132, ?_⟩
                conv => whnf
                intro hd746
                obtain ⟨r188, hx1133, hx1131⟩ := obind hx1131
                conv => whnf
                refine Side.mk rfl ?_
                conv => whnf
                refine CallG.pure _ (frameSumC hN hx1133) ?_
                cases hx1131
                conv => whnf
                refine ⟨(), trivial, Sub.eq rfl ?_ ?_⟩
                · repeat ((conv => whnf); refine Need.mk rfl ?_)
                  exact trivial
                · conv => whnf
                  refine Need.mk (OLe.refl _) ?_
                  conv => whnf
                  refine Need.mk (OLe.refl _) ?_
                  conv => whnf
                  refine Need.mk (OLe.refl _) ?_
                  conv => whnf
                  refine Need.mk (OLe.refl _) ?_
                  conv => whnf
                  refine Need.mk (OLe.refl _) ?_
                  conv => whnf
                  refine Need.mk (OLe.refl _) ?_
                  exact trivial
              · replace hx1131 := ite_f hc376 hx1131
                cases hx1131
                conv => whnf
                refine ⟨(), trivial, Sub.eq rfl ?_ ?_⟩
                · repeat ((conv => whnf); refine Need.mk rfl ?_)
                  exact trivial
                · conv => whnf
                  refine Need.mk (OLe.refl _) ?_
                  conv => whnf
                  refine Need.mk (OLe.refl _) ?_
                  conv => whnf
                  refine Need.mk (OLe.refl _) ?_
                  conv => whnf
                  refine Need.mk (OLe.refl _) ?_
                  conv => whnf
                  refine Need.mk (OLe.refl _) ?_
                  conv => whnf
                  refine Need.mk (OLe.refl _) ?_
                  exact trivial
            · rintro _ _
              conv => whnf
              intro hd749
              obtain ⟨l622, hx1135, hl4⟩ := obind hl4
              conv => whnf
              refine Side.mk ⟨rfl, rfl⟩ ?_
              conv => whnf
              refine Side.mk ⟨rfl, rfl, rfl⟩ (Need.mk (app_need hN hx1135 (by decide)) (Eqv.mk (List.map I l622) (app_map _ hx1135) ?_))
              conv => whnf
              intro hd750
              conv => whnf
              refine ⟨(n4, (x394, v97, w64 (v98 + 1), l622), hd750), hl4, Sub.eq rfl ?_ ?_, Nat.lt_succ_self _⟩
              · repeat ((conv => whnf); refine Need.mk rfl ?_)
                exact trivial
              · conv => whnf
                refine Need.mk (OLe.refl _) ?_
                conv => whnf
                refine Need.mk (OLe.refl _) ?_
                conv => whnf
                refine Need.mk (OLe.refl _) ?_
                conv => whnf
                refine Need.mk (OLe.refl _) ?_
                conv => whnf
                refine Need.mk (OLe.refl _) ?_
                conv => whnf
                refine Need.mk (OLe.refl _) ?_
                exact trivial
        · replace hl4 := ite_f hc368 hl4
          conv => whnf
          refine ⟨(l614, hd738), hl4, Sub.eq rfl ?_ ?_⟩
          · repeat ((conv => whnf); refine Need.mk rfl ?_)
            exact trivial
          · conv => whnf
            refine Need.mk (OLe.refl _) ?_
            exact trivial
    · clear h
      rintro ⟨l594, hd714⟩ h
      unfold frameLawCounts_k2 at h
      conv => whnf
      refine Side.mk rfl ?_
      conv => whnf
      cases h
      exact rfl

theorem frameLawBehindC {N : Nat} (hN : N ≤ 1073741824) {l1 : FrameLaw} {sheet1 : List Int} {r : FramePlay} (h : frameLawBehind N l1 sheet1 = some r) :
    ACalls Try.prog 50 [.d (.agg [I l1.fFrames, I l1.fPins, I l1.fBalls, I l1.fTap]), .d (.list 1 (List.map I sheet1))] [] fun e os => e = .ret (.d (.agg [I r.fLaw.fFrames, I r.fLaw.fPins, I r.fLaw.fBalls, I r.fLaw.fTap, I r.fAt.fFrame, I r.fAt.fThrown, I r.fAt.fStanding, .bool r.fAt.fFresh, I r.fAt.fNeed, I r.fAt.fAfter.a0, I r.fAt.fAfter.a1])) ∧ os = [] := by
  refine acalls_f (fresh := false) tt_ok dr_ok ⟨[2], [], [], [], [1002], 0⟩ Try.func50 rfl Try.call50 rfl ?_
  unfold frameLawBehind at h
  conv => whnf
  intro b2
  obtain ⟨r2, hx2, h⟩ := obind h
  conv => whnf
  refine CallG.pure _ (frameLawBeginC hN hx2) ?_
  conv => whnf
  intro b4
  conv => whnf
  refine Side.mk rfl ?_
  obtain ⟨p5, hx55, h⟩ := obind h
  conv => whnf
  refine SeqG.mk Unit (fun y => [(4, .ptr 4 b2 0), (5, .ptr 5 b4 0)]) (fun y => [(4, .cells b2 [.d (I 0), .d (I 0), .d (I 0), .d (I 0), .d (I 0), .d (I 0), .d (I 0), .d (.bool false), .d (I 0), .d (I 0), .d (I 0)]), (5, .cells b4 [.d (I p5.fLaw.fFrames), .d (I p5.fLaw.fPins), .d (I p5.fLaw.fBalls), .d (I p5.fLaw.fTap), .d (I p5.fAt.fFrame), .d (I p5.fAt.fThrown), .d (I p5.fAt.fStanding), .d (.bool p5.fAt.fFresh), .d (I p5.fAt.fNeed), .d (I p5.fAt.fAfter.a0), .d (I p5.fAt.fAfter.a1)])]) (fun _ => True) ?_ ?_
  · obtain ⟨⟨ra16, rb16⟩, hx57, hx55⟩ := obind hx55
    conv => whnf
    refine CallG.pure _ (frameLawBallsC hN hx57) ?_
    conv => whnf
    intro lp2 rc14
    refine IterG.mk _ _ ⟨[], [], [], [], [], 2000⟩ Try.func65 rfl Try.call65 rfl rfl ?_
    obtain ⟨r30, hx59, hx55⟩ := obind hx55
    conv => whnf
    refine CallG.pure _ (frameLawBeginC hN hx59) ?_
    conv => whnf
    intro b44
    conv => whnf
    refine Side.mk rfl ?_
    conv => whnf
    refine Ln.mk _ (List.length_map _) ?_
    conv => whnf
    refine LoopG.mk (Nat × (Int × Int × FramePlay × FramePlay)) (fun y => [(0, .fn (.yield lp2) [] []), (4, .ptr 2004 b44 0), (13, .d (.list 1 (List.map I rb16))), (14, .d (I y.2.1)), (15, .d (I y.2.2.1))]) (fun y => [(2004, .cells b44 [.d (I y.2.2.2.1.fLaw.fFrames), .d (I y.2.2.2.1.fLaw.fPins), .d (I y.2.2.2.1.fLaw.fBalls), .d (I y.2.2.2.1.fLaw.fTap), .d (I y.2.2.2.1.fAt.fFrame), .d (I y.2.2.2.1.fAt.fThrown), .d (I y.2.2.2.1.fAt.fStanding), .d (.bool y.2.2.2.1.fAt.fFresh), .d (I y.2.2.2.1.fAt.fNeed), .d (I y.2.2.2.1.fAt.fAfter.a0), .d (I y.2.2.2.1.fAt.fAfter.a1)]), (4, .cells b2 [.d (I 0), .d (I 0), .d (I 0), .d (I 0), .d (I 0), .d (I 0), .d (I 0), .d (.bool false), .d (I 0), .d (I 0), .d (I 0)]), (5, .cells b4 [.d (I y.2.2.2.2.fLaw.fFrames), .d (I y.2.2.2.2.fLaw.fPins), .d (I y.2.2.2.2.fLaw.fBalls), .d (I y.2.2.2.2.fLaw.fTap), .d (I y.2.2.2.2.fAt.fFrame), .d (I y.2.2.2.2.fAt.fThrown), .d (I y.2.2.2.2.fAt.fStanding), .d (.bool y.2.2.2.2.fAt.fFresh), .d (I y.2.2.2.2.fAt.fNeed), .d (I y.2.2.2.2.fAt.fAfter.a0), .d (I y.2.2.2.2.fAt.fAfter.a1)]), (1000, .loop lp2 rc14 none)]) (fun y => loopN (fun rr x => frameLawBehind_b1 N rb16 rr x.1 x.2.1 x.2.2.1 x.2.2.2) y.1 y.2 = some p5) (fun y => y.1) (N, ((rb16.length : Int), 0, r30, r2)) hx55 (Sub.eq rfl ?_ ?_) ?_
    · repeat ((conv => whnf); refine Need.mk rfl ?_)
      exact trivial
    · conv => whnf
      refine Need.mk (OLe.refl _) ?_
      conv => whnf
      refine Need.mk (OLe.refl _) ?_
      conv => whnf
      refine Need.mk (OLe.refl _) ?_
      conv => whnf
      refine Need.mk (OLe.refl _) ?_
      exact trivial
    · rintro ⟨n2, ⟨v17, v18, c8, p9⟩⟩ hl2
      obtain ⟨n2, rfl, hl2⟩ := loopN_some hl2
      replace hl2 : frameLawBehind_b1 N rb16 (loopN (fun rr x => frameLawBehind_b1 N rb16 rr x.1 x.2.1 x.2.2.1 x.2.2.2) n2) v17 v18 c8 p9 = some p5 := hl2
      rw [frameLawBehind_b1] at hl2
      conv => whnf
      refine Br.mk (fun hc32 => ?_) (fun hc32 => ?_)
      · replace hl2 := ite_t hc32 hl2
        obtain ⟨x24, hx101, hl2⟩ := obind hl2
        conv => whnf
        refine Side.mk rfl ⟨_, idx_0 hx101, idx_map _ hx101, ?_⟩
        conv => whnf
        refine Side.mk rfl ?_
        obtain ⟨r54, hx105, hl2⟩ := obind hl2
        conv => whnf
        refine CallG.pure _ (framePlayMayC hN hx105) ?_
        conv => whnf
        refine Br.mk (fun hc36 => ?_) (fun hc36 => ?_)
        · replace hl2 := ite_t hc36 hl2
          conv => whnf
          refine Side.mk ⟨rfl, rfl⟩ ?_
          cases hl2
          conv => whnf
          refine ⟨(), trivial, Sub.eq rfl ?_ ?_⟩
          · repeat ((conv => whnf); refine Need.mk rfl ?_)
            exact trivial
          · conv => whnf
            refine Need.mk (OLe.refl _) ?_
            conv => whnf
            refine Need.mk (OLe.refl _) ?_
            exact trivial
        · replace hl2 := ite_f hc36 hl2
          conv => whnf
          refine Side.mk rfl ?_
          obtain ⟨⟨ra28, rb28, rc26⟩, hx107, hl2⟩ := obind hl2
          conv => whnf
          refine CallG.pure _ (framePlayNextC hN hx107) ?_
          conv => whnf
          intro b76
          conv => whnf
          refine Side.mk rfl ?_
          conv => whnf
          refine Side.mk rfl ?_
          conv => whnf
          refine Side.mk rfl ?_
          conv => whnf
          refine Side.mk ⟨rfl, rfl, rfl⟩ ?_
          conv => whnf
          intro b80
          conv => whnf
          refine Side.mk rfl ?_
          conv => whnf
          refine Side.mk rfl ?_
          conv => whnf
          refine Side.mk rfl ?_
          conv => whnf
          refine Side.mk rfl ?_
          conv => whnf
          refine Side.mk rfl ?_
          conv => whnf
          refine ⟨(n2, (v17, w64 (v18 + 1), ra28, ra28)), hl2, Sub.eq rfl ?_ ?_, Nat.lt_succ_self _⟩
          · repeat ((conv => whnf); refine Need.mk rfl ?_)
            exact trivial
          · conv => whnf
            refine Need.mk (OLe.refl _) ?_
            conv => whnf
            refine Need.mk (OLe.refl _) ?_
            conv => whnf
            refine Need.mk (OLe.refl _) ?_
            conv => whnf
            refine Need.mk (OLe.refl _) ?_
            exact trivial
      · replace hl2 := ite_f hc32 hl2
        conv => whnf
        refine Side.mk ⟨rfl, rfl⟩ ?_
        cases hl2
        conv => whnf
        refine ⟨(), trivial, Sub.eq rfl ?_ ?_⟩
        · repeat ((conv => whnf); refine Need.mk rfl ?_)
          exact trivial
        · conv => whnf
          refine Need.mk (OLe.refl _) ?_
          conv => whnf
          refine Need.mk (OLe.refl _) ?_
          exact trivial
  · rintro _ _
    conv => whnf
    refine Side.mk rfl ?_
    conv => whnf
    refine Side.mk rfl ?_
    conv => whnf
    refine Side.mk rfl ?_
    conv => whnf
    cases h
    exact rfl

theorem frameReadC {N : Nat} (hN : N ≤ 1073741824) {a1 : FrameLaw} {a2 : List Int} {r : FrameGame × Int} (h : frameRead N a1 a2 = some r) :
    ACalls Try.prog 25 [.d (.agg [I a1.fFrames, I a1.fPins, I a1.fBalls, I a1.fTap]), .d (.list 1 (List.map I a2))] [] fun e os => e = .ret (.d (.tup [.agg [.list 1 (List.map (fun x => .list 1 (List.map I x)) r.1.fFrames), .list 1 (List.map I r.1.fCounts), I r.1.fStanding, .bool r.1.fDone], I r.2])) ∧ os = [] := by
  refine acalls_f (fresh := false) tt_ok dr_ok ⟨[2], [35], [], [], [1005, 1007, 1011], 0⟩ Try.func25 rfl Try.call25 rfl ?_
  unfold frameRead at h
  conv => whnf
  intro b2
  obtain ⟨r4, hx4, h⟩ := obind h
  conv => whnf
  refine CallG.pure _ (frameLawCheckC hN hx4) ?_
  conv => whnf
  refine Br.mk (fun hc2 => ?_) (fun hc2 => ?_)
  · replace h := ite_t hc2 h
    conv => whnf
    refine Side.mk rfl ?_
    conv => whnf
    refine Side.mk rfl ?_
    conv => whnf
    cases h
    exact rfl
  · replace h := ite_f hc2 h
    obtain ⟨r6, hx6, h⟩ := obind h
    conv => whnf
    refine CallG.pure _ (frameLawCountsC hN hx6) ?_
    conv => whnf
    intro b4
    conv => whnf
    refine Side.mk rfl ?_
    obtain ⟨l85, hx163, h⟩ := obind h
    conv => whnf
    refine SeqG.mk (Value × (Nat → Value)) (fun y => [(1, .d (.list 1 (List.map I a2))), (2, .d (.ref (.agg [I a1.fFrames, I a1.fPins, I a1.fBalls, I a1.fTap]))), (4, .ptr 4 b2 0), (7, .ptr 7 b4 0)]) (fun y => [(4, .cells b2 [.nils 1, .nils 1, .d (I 0), .d (.bool false)]), (7, .cells b4 [.sl 36 y.1, .d (.list 1 (List.map I r6)), .d (I 0), .d (.bool false)]), (36, .rows y.1 24 3 1 y.2 none (List.map (List.map I) l85))]) (fun _ => True) ?_ ?_
    · obtain ⟨⟨ra16, rb16⟩, hx165, hx163⟩ := obind hx163
      conv => whnf
      refine CallG.pure _ (frameLawBallsC hN hx165) ?_
      conv => whnf
      intro lp2 rc14
      refine IterG.mk _ _ ⟨[], [], [], [], [], 2000⟩ Try.func65 rfl Try.call65 rfl rfl ?_
      obtain ⟨r34, hx167, hx163⟩ := obind hx163
      conv => whnf
      refine CallG.pure _ (frameLawBeginC hN hx167) ?_
      conv => whnf
      intro b44
      conv => whnf
      refine Side.mk rfl ?_
      conv => whnf
      refine Ln.mk _ (List.length_map _) ?_
      conv => whnf
      refine LoopG.mk (Nat × (Int × Int × FramePlay × (List (List Int))) × Value × (Nat → Value)) (fun y => [(0, .fn (.yield lp2) [] []), (4, .ptr 2004 b44 0), (13, .d (.list 1 (List.map I rb16))), (14, .d (I y.2.1.1)), (15, .d (I y.2.1.2.1))]) (fun y => [(2004, .cells b44 [.d (I y.2.1.2.2.1.fLaw.fFrames), .d (I y.2.1.2.2.1.fLaw.fPins), .d (I y.2.1.2.2.1.fLaw.fBalls), .d (I y.2.1.2.2.1.fLaw.fTap), .d (I y.2.1.2.2.1.fAt.fFrame), .d (I y.2.1.2.2.1.fAt.fThrown), .d (I y.2.1.2.2.1.fAt.fStanding), .d (.bool y.2.1.2.2.1.fAt.fFresh), .d (I y.2.1.2.2.1.fAt.fNeed), .d (I y.2.1.2.2.1.fAt.fAfter.a0), .d (I y.2.1.2.2.1.fAt.fAfter.a1)]), (4, .cells b2 [.nils 1, .nils 1, .d (I 0), .d (.bool false)]), (7, .cells b4 [.sl 36 y.2.2.1, .d (.list 1 (List.map I r6)), .d (I 0), .d (.bool false)]), (1000, .loop lp2 rc14 none), (36, .rows y.2.2.1 24 3 1 y.2.2.2 none (List.map (List.map I) y.2.1.2.2.2))]) (fun y => loopN (fun rr x => frameRead_b1 N rb16 rr x.1 x.2.1 x.2.2.1 x.2.2.2) y.1 y.2.1 = some l85) (fun y => y.1) (N, ((rb16.length : Int), 0, r34, []), (.slice none 0 0), (fun _ => .slice none 0 0)) hx163 (Sub.eq rfl ?_ ?_) ?_
      · repeat ((conv => whnf); refine Need.mk rfl ?_)
        exact trivial
      · conv => whnf
        refine Need.mk (OLe.refl _) ?_
        conv => whnf
        refine Need.mk (OLe.refl _) ?_
        conv => whnf
        refine Need.mk (OLe.cells _ _ _ (by repeat (first | exact trivial | ((conv => whnf); refine Need.mk rfl ?_)))) ?_
        conv => whnf
        refine Need.mk (OLe.refl _) ?_
        conv => whnf
        refine Need.mk (OLe.nilrows _ _ _ _ _) ?_
        exact trivial
      · rintro ⟨n2, ⟨v17, v18, c8, l137⟩, hd337, hs177⟩ hl2
        obtain ⟨n2, rfl, hl2⟩ := loopN_some hl2
        replace hl2 : frameRead_b1 N rb16 (loopN (fun rr x => frameRead_b1 N rb16 rr x.1 x.2.1 x.2.2.1 x.2.2.2) n2) v17 v18 c8 l137 = some l85 := hl2
        rw [frameRead_b1] at hl2
        conv => whnf
        refine Br.mk (fun hc114 => ?_) (fun hc114 => ?_)
        · replace hl2 := ite_t hc114 hl2
          obtain ⟨x68, hx293, hl2⟩ := obind hl2
          conv => whnf
          refine Side.mk rfl ⟨_, idx_0 hx293, idx_map _ hx293, ?_⟩
          conv => whnf
          refine Side.mk rfl ?_
          obtain ⟨r58, hx297, hl2⟩ := obind hl2
          conv => whnf
          refine CallG.pure _ (framePlayMayC hN hx297) ?_
          conv => whnf
          refine Br.mk (fun hc126 => ?_) (fun hc126 => ?_)
          · replace hl2 := ite_t hc126 hl2
            conv => whnf
            refine Side.mk ⟨rfl, rfl⟩ ?_
            cases hl2
            conv => whnf
            refine ⟨(hd337, hs177), trivial, Sub.eq rfl ?_ ?_⟩
            · repeat ((conv => whnf); refine Need.mk rfl ?_)
              exact trivial
            · conv => whnf
              refine Need.mk (OLe.refl _) ?_
              conv => whnf
              refine Need.mk (OLe.refl _) ?_
              conv => whnf
              refine Need.mk (OLe.refl _) ?_
              exact trivial
          · replace hl2 := ite_f hc126 hl2
            conv => whnf
            refine Side.mk rfl ?_
            obtain ⟨⟨ra28, rb28, rc26⟩, hx299, hl2⟩ := obind hl2
            conv => whnf
            refine CallG.pure _ (framePlayNextC hN hx299) ?_
            conv => whnf
            intro b76
            conv => whnf
            refine Side.mk rfl ?_
            conv => whnf
            refine Side.mk rfl ?_
            conv => whnf
            refine Side.mk rfl ?_
            conv => whnf
            refine Side.mk ⟨rfl, rfl, rfl⟩ ?_
            conv => whnf
            intro b80
            conv => whnf
            refine Side.mk rfl ?_
            obtain ⟨l167, hx316, hl2⟩ := obind hl2
            conv => whnf
            refine SeqG.mk (Value × (Nat → Value)) (fun y => [(7, .ptr 7 b4 0), (9, .ptr 9 b80 0)]) (fun y => [(7, .cells b4 [.sl 36 y.1, .d (.list 1 (List.map I r6)), .d (I 0), .d (.bool false)]), (9, .cells b80 [.d (I x68), .d (I c8.fAt.fFrame), .d (I rb28), .d (I ra28.fLaw.fFrames), .d (I ra28.fLaw.fPins), .d (I ra28.fLaw.fBalls), .d (I ra28.fLaw.fTap), .d (I ra28.fAt.fFrame), .d (I ra28.fAt.fThrown), .d (I ra28.fAt.fStanding), .d (.bool ra28.fAt.fFresh), .d (I ra28.fAt.fNeed), .d (I ra28.fAt.fAfter.a0), .d (I ra28.fAt.fAfter.a1)]), (4, .cells b2 [.nils 1, .nils 1, .d (I 0), .d (.bool false)]), (2004, .cells b44 [.d (I c8.fLaw.fFrames), .d (I c8.fLaw.fPins), .d (I c8.fLaw.fBalls), .d (I c8.fLaw.fTap), .d (I c8.fAt.fFrame), .d (I c8.fAt.fThrown), .d (I c8.fAt.fStanding), .d (.bool c8.fAt.fFresh), .d (I c8.fAt.fNeed), .d (I c8.fAt.fAfter.a0), .d (I c8.fAt.fAfter.a1)]), (2008, .cells b76 [.d (I ra28.fLaw.fFrames), .d (I ra28.fLaw.fPins), .d (I ra28.fLaw.fBalls), .d (I ra28.fLaw.fTap), .d (I ra28.fAt.fFrame), .d (I ra28.fAt.fThrown), .d (I ra28.fAt.fStanding), .d (.bool ra28.fAt.fFresh), .d (I ra28.fAt.fNeed), .d (I ra28.fAt.fAfter.a0), .d (I ra28.fAt.fAfter.a1)]), (36, .rows y.1 24 3 1 y.2 none (List.map (List.map I) l167))]) (fun _ => True) ?_ ?_
            · conv => whnf
              refine Side.mk rfl ?_
              conv => whnf
              refine Side.mk rfl ?_
              conv => whnf
              refine Side.mk rfl (LnN.mk _ (List.length_map _) ?_)
              conv => whnf
              refine Br.mk (fun hc134 => ?_) (fun hc134 => ?_)
              · replace hx316 := ite_t hc134 hx316
                conv => whnf
                refine Side.mk rfl ?_
                conv => whnf
                intro hd404
                obtain ⟨l168, hx317, hx316⟩ := obind hx316
                conv => whnf
                refine Side.mk ⟨rfl, rfl⟩ ?_
                conv => whnf
                refine Side.mk ⟨rfl, rfl, rfl⟩ (Need.mk (app_need (f := List.map I) hN hx317 (by decide)) (REqv.mk (List.map (List.map I) l168) (app_map (List.map I) hx317) ?_))
                conv => whnf
                intro hd405 hs215
                conv => whnf
                refine Side.mk rfl ?_
                cases hx316
                conv => whnf
                refine ⟨(hd405, hs215), trivial, Sub.eq rfl ?_ ?_⟩
                · repeat ((conv => whnf); refine Need.mk rfl ?_)
                  exact trivial
                · conv => whnf
                  refine Need.mk (OLe.refl _) ?_
                  conv => whnf
                  refine Need.mk (OLe.refl _) ?_
                  conv => whnf
                  refine Need.mk (OLe.refl _) ?_
                  conv => whnf
                  refine Need.mk (OLe.refl _) ?_
                  conv => whnf
                  refine Need.mk (OLe.refl _) ?_
                  conv => whnf
                  refine Need.mk (OLe.refl _) ?_
                  exact trivial
              · replace hx316 := ite_f hc134 hx316
                cases hx316
                conv => whnf
                refine ⟨(hd337, hs177), trivial, Sub.eq rfl ?_ ?_⟩
                · repeat ((conv => whnf); refine Need.mk rfl ?_)
                  exact trivial
                · conv => whnf
                  refine Need.mk (OLe.refl _) ?_
                  conv => whnf
                  refine Need.mk (OLe.refl _) ?_
                  conv => whnf
                  refine Need.mk (OLe.refl _) ?_
                  conv => whnf
                  refine Need.mk (OLe.refl _) ?_
                  conv => whnf
                  refine Need.mk (OLe.refl _) ?_
                  conv => whnf
                  refine Need.mk (OLe.refl _) ?_
                  exact trivial
            · rintro ⟨hd403, hs214⟩ _
              obtain ⟨x72, hx318, hl2⟩ := obind hl2
              obtain ⟨l169, hx319, hl2⟩ := obind hl2
              conv => whnf
              refine DrawG.mk (.take 0 (.take 1 (.take 2 (.take 3 (.take 4 (.take 5 (.take 6 (.take 7 (.take 8 (.take 9 (.take 10 (.take 11 (.alt 12 [10, 9, 8, 7, 6, 5, 4, 3, 2, 1, 0] (.alt 13 [10, 8, 7, 6, 5, 4, 3, 2, 1, 0] (.take 14 (.alt 15 [] .done .nil)) .nil) .nil))))))))))))) (by kernel_rfl) ?_
              conv => whnf
              refine Side.mk rfl ?_
              conv => whnf
              refine Side.mk rfl ?_
              conv => whnf
              refine Side.mk rfl ?_
              conv => whnf
              refine Side.mk rfl ?_
              conv => whnf
              refine Side.mk ⟨rfl, rfl⟩ (Need.mk (idx_need _ hx318) ?_)
              conv => whnf
              refine Side.mk ⟨rfl, rfl⟩ (Need.mk (idx_len _ hx318) ?_)
              conv => whnf
              refine Side.mk rfl ?_
              conv => whnf
              refine Both.mk ?_ trivial
              conv => whnf
              intro hd408
              conv => whnf
              refine Need.mk (AV.le_refl _) ?_
              conv => whnf
              refine Side.mk ⟨rfl, rfl⟩ (Need.mk (idx_len _ hx318) ?_)
              conv => whnf
              refine Need.mk (AV.le_refl _) ?_
              conv => whnf
              refine Side.mk ⟨rfl, rfl⟩ (Need.mk (idx_need _ hx318) ?_)
              conv => whnf
              refine Need.mk (AV.le_refl _) ?_
              conv => whnf
              refine Side.mk rfl ?_
              conv => whnf
              refine Need.mk (AV.le_refl _) ?_
              conv => whnf
              refine Need.mk (AV.le_refl _) ?_
              conv => whnf
              refine Side.mk rfl ?_
              conv => whnf
              refine Need.mk (AV.le_refl _) ?_
              conv => whnf
              refine Need.mk (AV.le_refl _) ?_
              conv => whnf
              refine Side.mk rfl ?_
              conv => whnf
              refine Need.mk (AV.le_refl _) ?_
              conv => whnf
              refine Need.mk (AV.le_refl _) ?_
              conv => whnf
              refine Side.mk rfl ?_
              conv => whnf
              refine Need.mk (AV.le_refl _) ?_
              conv => whnf
              refine Need.mk (AV.le_refl _) ?_
              conv => whnf
              refine Both.mk ?_ trivial
              conv => whnf
              refine Side.mk ⟨rfl, rfl⟩ ?_
              conv => whnf
              refine Side.mk ⟨rfl, rfl, rfl⟩ ⟨_, idx_map _ hx318, Need.mk (app_need hN hx319 (by decide)) (Eqv.mk (List.map I l169) (app_map _ hx319) ?_)⟩
              conv => whnf
              intro hd409
              conv => whnf
              refine Need.mk (AV.le_refl _) ?_
              conv => whnf
              refine Side.mk ⟨rfl, rfl⟩ (Need.mk (idx_need _ hx318) ?_)
              conv => whnf
              refine Need.mk (AV.le_refl _) ?_
              conv => whnf
              refine Side.mk rfl ?_
              conv => whnf
              refine Need.mk (AV.le_refl _) ?_
              conv => whnf
              refine Need.mk (AV.le_refl _) ?_
              conv => whnf
              refine Side.mk rfl ?_
              conv => whnf
              refine Need.mk (AV.le_refl _) ?_
              conv => whnf
              refine Need.mk (AV.le_refl _) ?_
              conv => whnf
              refine Side.mk rfl ?_
              conv => whnf
              refine Need.mk (AV.le_refl _) ?_
              conv => whnf
              refine Need.mk (AV.le_refl _) ?_
              conv => whnf
              refine Side.mk rfl ?_
              conv => whnf
              refine Need.mk (AV.le_refl _) ?_
              conv => whnf
              refine Need.mk (AV.le_refl _) ?_
              conv => whnf
              refine Side.mk ⟨rfl, rfl⟩ (Need.mk (idx_need _ hx318) ?_)
              conv => whnf
              refine Both.mk ?_ trivial
              conv => whnf
              refine Side.mk ⟨rfl, rfl, rfl, rfl, rfl, rfl⟩ (Need.mk (idx_len _ hx318) (REqv.mk (List.map (List.map I) (List.set l167 (Int.toNat c8.fAt.fFrame) l169)) (set_map _ _ _ _ rfl) ?_))
              conv => whnf
              intro hs217
              conv => whnf
              refine Side.mk rfl ?_
              conv => whnf
              refine Side.mk rfl ?_
              conv => whnf
              refine ⟨(n2, (v17, w64 (v18 + 1), ra28, (List.set l167 (Int.toNat c8.fAt.fFrame) l169)), hd403, hs217), hl2, Sub.eq rfl ?_ ?_, Nat.lt_succ_self _⟩
              · repeat ((conv => whnf); refine Need.mk rfl ?_)
                exact trivial
              · conv => whnf
                refine Need.mk (OLe.refl _) ?_
                conv => whnf
                refine Need.mk (OLe.refl _) ?_
                conv => whnf
                refine Need.mk (OLe.refl _) ?_
                conv => whnf
                refine Need.mk (OLe.refl _) ?_
                conv => whnf
                refine Need.mk (OLe.refl _) ?_
                exact trivial
        · replace hl2 := ite_f hc114 hl2
          conv => whnf
          refine Side.mk ⟨rfl, rfl⟩ ?_
          cases hl2
          conv => whnf
          refine ⟨(hd337, hs177), trivial, Sub.eq rfl ?_ ?_⟩
          · repeat ((conv => whnf); refine Need.mk rfl ?_)
            exact trivial
          · conv => whnf
            refine Need.mk (OLe.refl _) ?_
            conv => whnf
            refine Need.mk (OLe.refl _) ?_
            conv => whnf
            refine Need.mk (OLe.refl _) ?_
            exact trivial
    · rintro ⟨hd205, hs109⟩ _
      obtain ⟨r60, hx321, h⟩ := obind h
      conv => whnf
      refine CallG.pure _ (frameLawBehindC hN hx321) ?_
      conv => whnf
      intro b82
      conv => whnf
      refine Side.mk rfl ?_
      obtain ⟨⟨c9, c10⟩, hx324, h⟩ := obind h
      conv => whnf
      refine SeqG.mk Unit (fun y => [(4, .ptr 4 b2 0), (7, .ptr 7 b4 0)]) (fun y => [(4, .cells b2 [.nils 1, .nils 1, .d (I 0), .d (.bool false)]), (7, .cells b4 [.sl 36 hd205, .d (.list 1 (List.map I r6)), .d (I c9), .d (.bool c10)]), (36, .rows hd205 24 3 1 hs109 none (List.map (List.map I) l85))]) (fun _ => True) ?_ ?_
      · conv => whnf
        refine Side.mk rfl ?_
        obtain ⟨r64, hx326, hx324⟩ := obind hx324
        conv => whnf
        refine CallG.pure _ (framePlayDoneC hN hx326) ?_
        conv => whnf
        refine Side.mk rfl ?_
        conv => whnf
        refine Side.mk rfl ?_
        conv => whnf
        refine Br.mk (fun hc136 => ?_) (fun hc136 => ?_)
        · replace hx324 := ite_t hc136 hx324
          conv => whnf
          refine Side.mk rfl ?_
          conv => whnf
          refine Side.mk rfl ?_
          cases hx324
          conv => whnf
          refine ⟨(), trivial, Sub.eq rfl ?_ ?_⟩
          · repeat ((conv => whnf); refine Need.mk rfl ?_)
            exact trivial
          · conv => whnf
            refine Need.mk (OLe.refl _) ?_
            conv => whnf
            refine Need.mk (OLe.refl _) ?_
            conv => whnf
            refine Need.mk (OLe.refl _) ?_
            exact trivial
        · replace hx324 := ite_f hc136 hx324
          cases hx324
          conv => whnf
          refine ⟨(), trivial, Sub.eq rfl ?_ ?_⟩
          · repeat ((conv => whnf); refine Need.mk rfl ?_)
            exact trivial
          · conv => whnf
            refine Need.mk (OLe.refl _) ?_
            conv => whnf
            refine Need.mk (OLe.refl _) ?_
            conv => whnf
            refine Need.mk (OLe.refl _) ?_
            exact trivial
      · rintro _ _
        conv => whnf
        refine Side.mk rfl ?_
        conv => whnf
        refine Side.mk rfl ?_
        conv => whnf
        refine Side.mk rfl ?_
        conv => whnf
        refine Side.mk rfl (Eqv.mk (List.map (fun x => .list 1 (List.map I x)) l85) (rows_view I (D.list 1) _) ?_)
        conv => whnf
        cases h
        exact rfl

theorem frameBadC {N : Nat} (hN : N ≤ 1073741824) {l1 : FrameLaw} {balls1 : List Int} {r : Int × Int} (h : frameBad N l1 balls1 = some r) :
    ACalls Try.prog 20 [.d (.agg [I l1.fFrames, I l1.fPins, I l1.fBalls, I l1.fTap]), .d (.list 1 (List.map I balls1))] [] fun e os => e = .ret (.d (.tup [I r.1, I r.2])) ∧ os = [] := by
  refine acalls_f (fresh := false) tt_ok dr_ok ⟨[2], [], [], [], [], 0⟩ Try.func20 rfl Try.call20 rfl ?_
  unfold frameBad at h
  obtain ⟨r2, hx2, h⟩ := obind h
  conv => whnf
  refine CallG.pure _ (frameLawCheckC hN hx2) ?_
  conv => whnf
  refine Br.mk (fun hc1 => ?_) (fun hc1 => ?_)
  · replace h := ite_t hc1 h
    conv => whnf
    cases h
    exact rfl
  · replace h := ite_f hc1 h
    conv => whnf
    refine Br.mk (fun hc2 => ?_) (fun hc2 => ?_)
    · replace h := ite_t hc2 h
      obtain ⟨r4, hx4, h⟩ := obind h
      conv => whnf
      refine CallG.pure _ (frameLawBadC hN hx4) ?_
      conv => whnf
      cases h
      exact rfl
    · replace h := ite_f hc2 h
      conv => whnf
      cases h
      exact rfl

theorem frameLawTotalC {N : Nat} (hN : N ≤ 1073741824) {l1 : FrameLaw} {sheet1 : List Int} {r : Int} (h : frameLawTotal N l1 sheet1 = some r) :
    ACalls Try.prog 56 [.d (.agg [I l1.fFrames, I l1.fPins, I l1.fBalls, I l1.fTap]), .d (.list 1 (List.map I sheet1))] [] fun e os => e = .ret (.d (I r)) ∧ os = [] := by
  refine acalls_f (fresh := false) tt_ok dr_ok ⟨[2], [], [], [], [1002], 0⟩ Try.func56 rfl Try.call56 rfl ?_
  unfold frameLawTotal at h
  obtain ⟨r2, hx2, h⟩ := obind h
  conv => whnf
  refine CallG.pure _ (frameLawBeginC hN hx2) ?_
  conv => whnf
  intro b2
  conv => whnf
  refine Side.mk rfl ?_
  obtain ⟨n6, hx33, h⟩ := obind h
  conv => whnf
  refine SeqG.mk Unit (fun y => [(4, .d (I n6))]) (fun y => []) (fun _ => True) ?_ ?_
  · conv => whnf
    refine Ln.mk _ (List.length_map _) ?_
    conv => whnf
    refine LoopG.mk (Nat × (Int × Int × Int × FramePlay)) (fun y => [(4, .d (I y.2.1)), (5, .ptr 5 b2 0), (13, .d (.list 1 (List.map I sheet1))), (14, .d (I y.2.2.1)), (15, .d (I y.2.2.2.1))]) (fun y => [(5, .cells b2 [.d (I y.2.2.2.2.fLaw.fFrames), .d (I y.2.2.2.2.fLaw.fPins), .d (I y.2.2.2.2.fLaw.fBalls), .d (I y.2.2.2.2.fLaw.fTap), .d (I y.2.2.2.2.fAt.fFrame), .d (I y.2.2.2.2.fAt.fThrown), .d (I y.2.2.2.2.fAt.fStanding), .d (.bool y.2.2.2.2.fAt.fFresh), .d (I y.2.2.2.2.fAt.fNeed), .d (I y.2.2.2.2.fAt.fAfter.a0), .d (I y.2.2.2.2.fAt.fAfter.a1)])]) (fun y => loopN (fun rr x => frameLawTotal_b1 N sheet1 rr x.1 x.2.1 x.2.2.1 x.2.2.2) y.1 y.2 = some n6) (fun y => y.1) (N, (0, (sheet1.length : Int), 0, r2)) hx33 (Sub.eq rfl ?_ ?_) ?_
    · repeat ((conv => whnf); refine Need.mk rfl ?_)
      exact trivial
    · conv => whnf
      refine Need.mk (OLe.refl _) ?_
      exact trivial
    · rintro ⟨n11, ⟨n10, v17, v18, p8⟩⟩ hl2
      obtain ⟨n11, rfl, hl2⟩ := loopN_some hl2
      replace hl2 : frameLawTotal_b1 N sheet1 (loopN (fun rr x => frameLawTotal_b1 N sheet1 rr x.1 x.2.1 x.2.2.1 x.2.2.2) n11) n10 v17 v18 p8 = some n6 := hl2
      rw [frameLawTotal_b1] at hl2
      conv => whnf
      refine Br.mk (fun hc12 => ?_) (fun hc12 => ?_)
      · replace hl2 := ite_t hc12 hl2
        obtain ⟨x24, hx60, hl2⟩ := obind hl2
        conv => whnf
        refine Side.mk rfl ⟨_, idx_0 hx60, idx_map _ hx60, ?_⟩
        conv => whnf
        refine Side.mk rfl ?_
        obtain ⟨⟨ra24, rb24, rc24⟩, hx62, hl2⟩ := obind hl2
        conv => whnf
        refine CallG.pure _ (framePlayNextC hN hx62) ?_
        conv => whnf
        intro b26
        conv => whnf
        refine Side.mk rfl ?_
        obtain ⟨r14, hx63, hl2⟩ := obind hl2
        conv => whnf
        refine DrawG.mk (.take 0 (.take 1 (.take 4 (.alt 2 [4] (.alt 3 [4] (.take 5 (.alt 6 [] .done .nil)) .nil) .nil)))) (by kernel_rfl) ?_
        conv => whnf
        refine Side.mk rfl ?_
        conv => whnf
        refine Both.mk ?_ trivial
        conv => whnf
        intro hd24
        conv => whnf
        refine Side.mk rfl ?_
        conv => whnf
        refine Need.mk (AV.le_refl _) ?_
        conv => whnf
        refine Both.mk ?_ trivial
        conv => whnf
        refine Side.mk rfl ?_
        conv => whnf
        refine CallG.pure _ (frameSumC hN hx63) ?_
        conv => whnf
        refine Side.mk rfl ?_
        conv => whnf
        refine Need.mk (AV.le_refl _) ?_
        conv => whnf
        refine Both.mk ?_ trivial
        conv => whnf
        refine Side.mk rfl ?_
        conv => whnf
        refine ⟨(n11, (r14, v17, w64 (v18 + 1), ra24)), hl2, Sub.eq rfl ?_ ?_, Nat.lt_succ_self _⟩
        · repeat ((conv => whnf); refine Need.mk rfl ?_)
          exact trivial
        · conv => whnf
          refine Need.mk (OLe.refl _) ?_
          exact trivial
      · replace hl2 := ite_f hc12 hl2
        cases hl2
        conv => whnf
        refine ⟨(), trivial, Sub.eq rfl ?_ ?_⟩
        · repeat ((conv => whnf); refine Need.mk rfl ?_)
          exact trivial
        · exact trivial
  · rintro _ _
    conv => whnf
    cases h
    exact rfl

theorem framePlayLeastC {N : Nat} (hN : N ≤ 1073741824) {p1 : FramePlay} {r : Int} (h : framePlayLeast N p1 = some r) :
    ACalls Try.prog 69 [.d (.agg [I p1.fLaw.fFrames, I p1.fLaw.fPins, I p1.fLaw.fBalls, I p1.fLaw.fTap, I p1.fAt.fFrame, I p1.fAt.fThrown, I p1.fAt.fStanding, .bool p1.fAt.fFresh, I p1.fAt.fNeed, I p1.fAt.fAfter.a0, I p1.fAt.fAfter.a1])] [] fun e os => e = .ret (.d (I r)) ∧ os = [] := by
  refine acalls_f (fresh := false) tt_ok dr_ok ⟨[1], [], [], [], [], 0⟩ Try.func69 rfl Try.call69 rfl ?_
  unfold framePlayLeast at h
  conv => whnf
  cases h
  exact rfl

theorem frameLawFinalC {N : Nat} (hN : N ≤ 1073741824) {l1 : FrameLaw} {sheet1 : List Int} {r : Int} (h : frameLawFinal N l1 sheet1 = some r) :
    ACalls Try.prog 68 [.d (.agg [I l1.fFrames, I l1.fPins, I l1.fBalls, I l1.fTap]), .d (.list 1 (List.map I sheet1)), .d (.agg [.fn (.func 69) [] []])] [] fun e os => e = .ret (.d (I r)) ∧ os = [] := by
  refine acalls_f (fresh := false) tt_ok dr_ok ⟨[3, 5], [], [], [], [4, 1002], 0⟩ Try.func68 rfl Try.call68 rfl ?_
  unfold frameLawFinal at h
  obtain ⟨r2, hx2, h⟩ := obind h
  conv => whnf
  refine CallG.pure _ (frameLawTotalC hN hx2) ?_
  obtain ⟨n6, hx54, h⟩ := obind h
  conv => whnf
  refine SeqG.mk Unit (fun y => [(7, .d (I n6))]) (fun y => []) (fun _ => True) ?_ ?_
  · obtain ⟨r37, hx56, hx54⟩ := obind hx54
    conv => whnf
    refine CallG.pure _ (frameLawBehindC hN hx56) ?_
    conv => whnf
    intro b55
    conv => whnf
    refine Side.mk rfl ?_
    conv => whnf
    refine LoopG.mk (Nat × (Int × FramePlay) × Nat) (fun y => [(5, .d (.ref (.agg [.fn (.func 69) [] []]))), (7, .d (I y.2.1.1)), (8, .ptr 8 y.2.2 0)]) (fun y => [(8, .cells y.2.2 [.d (I y.2.1.2.fLaw.fFrames), .d (I y.2.1.2.fLaw.fPins), .d (I y.2.1.2.fLaw.fBalls), .d (I y.2.1.2.fLaw.fTap), .d (I y.2.1.2.fAt.fFrame), .d (I y.2.1.2.fAt.fThrown), .d (I y.2.1.2.fAt.fStanding), .d (.bool y.2.1.2.fAt.fFresh), .d (I y.2.1.2.fAt.fNeed), .d (I y.2.1.2.fAt.fAfter.a0), .d (I y.2.1.2.fAt.fAfter.a1)])]) (fun y => loopN (fun rr x => frameLawFinal_b1 N rr x.1 x.2) y.1 y.2.1 = some n6) (fun y => y.1) (N, (r2, r37), b55) hx54 (Sub.eq rfl ?_ ?_) ?_
    · repeat ((conv => whnf); refine Need.mk rfl ?_)
      exact trivial
    · conv => whnf
      refine Need.mk (OLe.refl _) ?_
      exact trivial
    · rintro ⟨n11, ⟨n10, p8⟩, bb18⟩ hl2
      obtain ⟨n11, rfl, hl2⟩ := loopN_some hl2
      replace hl2 : frameLawFinal_b1 N (loopN (fun rr x => frameLawFinal_b1 N rr x.1 x.2) n11) n10 p8 = some n6 := hl2
      rw [frameLawFinal_b1] at hl2
      conv => whnf
      refine Side.mk rfl ?_
      obtain ⟨r62, hx93, hl2⟩ := obind hl2
      conv => whnf
      refine CallG.pure _ (framePlayDoneC hN hx93) ?_
      conv => whnf
      refine Br.mk (fun hc12 => ?_) (fun hc12 => ?_)
      · replace hl2 := ite_t hc12 hl2
        obtain ⟨⟨worth12, now12⟩, hx102, hl2⟩ := obind hl2
        conv => whnf
        refine SeqG.mk Nat (fun y => [(5, .d (.ref (.agg [.fn (.func 69) [] []]))), (7, .d (I n10)), (8, .ptr 8 bb18 0), (9, .ptr 9 y 0), (11, .d (I worth12))]) (fun y => [(8, .cells bb18 [.d (I p8.fLaw.fFrames), .d (I p8.fLaw.fPins), .d (I p8.fLaw.fBalls), .d (I p8.fLaw.fTap), .d (I p8.fAt.fFrame), .d (I p8.fAt.fThrown), .d (I p8.fAt.fStanding), .d (.bool p8.fAt.fFresh), .d (I p8.fAt.fNeed), .d (I p8.fAt.fAfter.a0), .d (I p8.fAt.fAfter.a1)]), (9, .cells y [.d (I now12.fLaw.fFrames), .d (I now12.fLaw.fPins), .d (I now12.fLaw.fBalls), .d (I now12.fLaw.fTap), .d (I now12.fAt.fFrame), .d (I now12.fAt.fThrown), .d (I now12.fAt.fStanding), .d (.bool now12.fAt.fFresh), .d (I now12.fAt.fNeed), .d (I now12.fAt.fAfter.a0), .d (I now12.fAt.fAfter.a1)])]) (fun _ => True) ?_ ?_
        · obtain ⟨r67, hx103, hx102⟩ := obind hx102
          obtain ⟨⟨ra24, rb24, rc24⟩, hx104, hx102⟩ := obind hx102
          conv => whnf
          refine DrawG.mk (.take 0 (.take 1 (.take 2 (.take 3 (.alt 4 [1, 0] (.alt 5 [1] (.take 6 (.take 7 (.take 8 (.take 9 (.alt 10 [9, 8, 7, 6, 1] (.alt 11 [9, 8] (.take 12 (.take 13 .done)) .nil) .nil))))) (.alt 10 [1, 0] (.alt 5 [1] (.take 6 (.take 7 (.take 8 (.take 9 (.alt 11 [9, 8] (.take 12 (.take 13 .done)) .nil))))) .nil) .nil)) (.alt 10 [3, 2, 1, 0] (.alt 4 [1, 0] (.alt 5 [1] (.take 6 (.take 7 (.take 8 (.take 9 (.alt 11 [9, 8] (.take 12 (.take 13 .done)) .nil))))) .nil) .nil) .nil)))))) (by kernel_rfl) ?_
          conv => whnf
          refine Side.mk rfl ?_
          conv => whnf
          refine Side.mk rfl ?_
          conv => whnf
          refine Both.mk ?_ ?_
          · conv => whnf
            refine CallG.pure _ (framePlayLeastC hN hx103) ?_
            conv => whnf
            refine Need.mk (AV.le_refl _) ?_
            conv => whnf
            refine Side.mk rfl ?_
            conv => whnf
            refine Need.mk (AV.le_refl _) ?_
            conv => whnf
            refine Both.mk ?_ ?_
            · conv => whnf
              refine CallG.pure _ (framePlayNextC hN hx104) ?_
              conv => whnf
              refine Need.mk (AV.le_refl _) ?_
              conv => whnf
              refine Both.mk ?_ trivial
              conv => whnf
              intro b103
              conv => whnf
              refine Need.mk (AV.le_refl _) ?_
              conv => whnf
              refine Need.mk (AV.le_refl _) ?_
              conv => whnf
              refine Need.mk (AV.le_refl _) ?_
              conv => whnf
              refine Need.mk (AV.le_refl _) ?_
              conv => whnf
              refine Need.mk (AV.le_refl _) ?_
              conv => whnf
              refine Both.mk ?_ trivial
              conv => whnf
              refine Side.mk rfl ?_
              conv => whnf
              refine Need.mk (AV.le_refl _) ?_
              conv => whnf
              refine Need.mk (AV.le_refl _) ?_
              cases hx102
              conv => whnf
              refine ⟨b103, trivial, Sub.eq rfl ?_ ?_⟩
              · repeat ((conv => whnf); refine Need.mk rfl ?_)
                exact trivial
              · conv => whnf
                refine Need.mk (OLe.refl _) ?_
                conv => whnf
                refine Need.mk (OLe.refl _) ?_
                exact trivial
            · conv => whnf
              refine Both.mk ?_ trivial
              conv => whnf
              intro b104
              conv => whnf
              refine Need.mk (AV.le_refl _) ?_
              conv => whnf
              refine Side.mk rfl ?_
              conv => whnf
              refine Need.mk (AV.le_refl _) ?_
              conv => whnf
              refine Both.mk ?_ trivial
              conv => whnf
              refine CallG.pure _ (framePlayNextC hN hx104) ?_
              conv => whnf
              refine Need.mk (AV.le_refl _) ?_
              conv => whnf
              refine Both.mk ?_ trivial
              conv => whnf
              refine Side.mk rfl ?_
              conv => whnf
              refine Need.mk (AV.le_refl _) ?_
              conv => whnf
              refine Need.mk (AV.le_refl _) ?_
              cases hx102
              conv => whnf
              refine ⟨b104, trivial, Sub.eq rfl ?_ ?_⟩
              · repeat ((conv => whnf); refine Need.mk rfl ?_)
                exact trivial
              · conv => whnf
                refine Need.mk (OLe.refl _) ?_
                conv => whnf
                refine Need.mk (OLe.refl _) ?_
                exact trivial
          · conv => whnf
            refine Both.mk ?_ trivial
            conv => whnf
            intro b105
            conv => whnf
            refine Side.mk rfl ?_
            conv => whnf
            refine Need.mk (AV.le_refl _) ?_
            conv => whnf
            refine Need.mk (AV.le_refl _) ?_
            conv => whnf
            refine Need.mk (AV.le_refl _) ?_
            conv => whnf
            refine Side.mk rfl ?_
            conv => whnf
            refine Need.mk (AV.le_refl _) ?_
            conv => whnf
            refine Both.mk ?_ trivial
            conv => whnf
            refine CallG.pure _ (framePlayLeastC hN hx103) ?_
            conv => whnf
            refine Need.mk (AV.le_refl _) ?_
            conv => whnf
            refine Side.mk rfl ?_
            conv => whnf
            refine Need.mk (AV.le_refl _) ?_
            conv => whnf
            refine Both.mk ?_ trivial
            conv => whnf
            refine CallG.pure _ (framePlayNextC hN hx104) ?_
            conv => whnf
            refine Need.mk (AV.le_refl _) ?_
            conv => whnf
            refine Both.mk ?_ trivial
            conv => whnf
            refine Side.mk rfl ?_
            conv => whnf
            refine Need.mk (AV.le_refl _) ?_
            conv => whnf
            refine Need.mk (AV.le_refl _) ?_
            cases hx102
            conv => whnf
            refine ⟨b105, trivial, Sub.eq rfl ?_ ?_⟩
            · repeat ((conv => whnf); refine Need.mk rfl ?_)
              exact trivial
            · conv => whnf
              refine Need.mk (OLe.refl _) ?_
              conv => whnf
              refine Need.mk (OLe.refl _) ?_
              exact trivial
        · rintro bb20 _
          obtain ⟨r68, hx105, hl2⟩ := obind hl2
          conv => whnf
          refine DrawG.mk (.take 0 (.take 1 (.take 4 (.alt 2 [4] (.alt 3 [4] (.take 5 (.alt 6 [] .done .nil)) .nil) .nil)))) (by kernel_rfl) ?_
          conv => whnf
          refine Side.mk rfl ?_
          conv => whnf
          refine Both.mk ?_ trivial
          conv => whnf
          intro hd24
          conv => whnf
          refine Side.mk rfl ?_
          conv => whnf
          refine Need.mk (AV.le_refl _) ?_
          conv => whnf
          refine Both.mk ?_ trivial
          conv => whnf
          refine Side.mk rfl ?_
          conv => whnf
          refine CallG.pure _ (frameSumC hN hx105) ?_
          conv => whnf
          refine Side.mk rfl ?_
          conv => whnf
          refine Need.mk (AV.le_refl _) ?_
          conv => whnf
          refine Both.mk ?_ trivial
          conv => whnf
          refine Side.mk rfl ?_
          conv => whnf
          refine Side.mk rfl ?_
          conv => whnf
          intro b106
          conv => whnf
          refine Side.mk rfl ?_
          conv => whnf
          refine ⟨(n11, (r68, now12), b106), hl2, Sub.eq rfl ?_ ?_, Nat.lt_succ_self _⟩
          · repeat ((conv => whnf); refine Need.mk rfl ?_)
            exact trivial
          · conv => whnf
            refine Need.mk (OLe.refl _) ?_
            exact trivial
      · replace hl2 := ite_f hc12 hl2
        cases hl2
        conv => whnf
        refine ⟨(), trivial, Sub.eq rfl ?_ ?_⟩
        · repeat ((conv => whnf); refine Need.mk rfl ?_)
          exact trivial
        · exact trivial
  · rintro _ _
    conv => whnf
    cases h
    exact rfl

theorem framePlayMostC {N : Nat} (hN : N ≤ 1073741824) {p1 : FramePlay} {r : Int} (h : framePlayMost N p1 = some r) :
    ACalls Try.prog 70 [.d (.agg [I p1.fLaw.fFrames, I p1.fLaw.fPins, I p1.fLaw.fBalls, I p1.fLaw.fTap, I p1.fAt.fFrame, I p1.fAt.fThrown, I p1.fAt.fStanding, .bool p1.fAt.fFresh, I p1.fAt.fNeed, I p1.fAt.fAfter.a0, I p1.fAt.fAfter.a1])] [] fun e os => e = .ret (.d (I r)) ∧ os = [] := by
  refine acalls_f (fresh := false) tt_ok dr_ok ⟨[1], [], [], [], [], 0⟩ Try.func70 rfl Try.call70 rfl ?_
  unfold framePlayMost at h
  conv => whnf
  cases h
  exact rfl
end Go.Proofs.Ythjafigloabfpaa
