/-
  Data of the program’s structs.
-/
import Derived.Test.YthjafigloabfpaaDef
import Derived.Test.YthjafigloabfpaaTt
namespace Go.Proofs.Ythjafigloabfpaa
open Go Go.Abs Go.Kp
set_option maxRecDepth 100000
set_option maxHeartbeats 8000000
set_option linter.all false

def Ref01Law.enc (x : Ref01Law) : D := .agg [I x.fFrames, I x.fPins, I x.fBalls, I x.fTap]

def FrameLaw.enc (x : FrameLaw) : D := .agg [I x.fFrames, I x.fPins, I x.fBalls, I x.fTap]

def FrameGame.enc (x : FrameGame) : D := .agg [.list 1 (List.map (fun x => .list 1 (List.map I x)) x.fFrames), .list 1 (List.map I x.fCounts), I x.fStanding, .bool x.fDone]

def FrameAt.enc (x : FrameAt) : D := .agg [I x.fFrame, I x.fThrown, I x.fStanding, .bool x.fFresh, I x.fNeed, I x.fAfter.a0, I x.fAfter.a1]

def FramePlay.enc (x : FramePlay) : D := .agg [I x.fLaw.fFrames, I x.fLaw.fPins, I x.fLaw.fBalls, I x.fLaw.fTap, I x.fAt.fFrame, I x.fAt.fThrown, I x.fAt.fStanding, .bool x.fAt.fFresh, I x.fAt.fNeed, I x.fAt.fAfter.a0, I x.fAt.fAfter.a1]

def FrameRange.enc (x : FrameRange) : D := .agg [I x.fLo, I x.fHi]

def FrameGoal.enc (x : FrameGoal) : D := .agg [I x.fAt.fFrame, I x.fAt.fThrown, I x.fAt.fStanding, .bool x.fAt.fFresh, I x.fAt.fNeed, I x.fAt.fAfter.a0, I x.fAt.fAfter.a1, I x.fLeft]

def Ref01Stand.enc (x : Ref01Stand) : D := .agg [I x.fFrame, I x.fThrown, I x.fStanding, .bool x.fSet, I x.fHas]

def Ref01Ball.enc (x : Ref01Ball) : D := .agg [I x.fFrame, I x.fCount]

def Ref01Game.enc (x : Ref01Game) : D := .agg [.list 1 (List.map (fun x => .list 1 (List.map I x)) x.fFrames), .list 1 (List.map I x.fCounts), I x.fStanding, .bool x.fDone]

def Ref01Range.enc (x : Ref01Range) : D := .agg [I x.fLo, I x.fHi]

def Ref01Tail.enc (x : Ref01Tail) : D := .agg [I x.fStand.fFrame, I x.fStand.fThrown, I x.fStand.fStanding, .bool x.fStand.fSet, I x.fStand.fHas, I x.fOne, I x.fTwo]

theorem eqc_int {k : IntKind} (x y : Int) : eqDs (cellsOf (.int k x)) (cellsOf (.int k y)) = decide (x = y) := by simp [cellsOf, eqDs, eqD]

theorem eqc_bool (x y : Bool) : eqDs (cellsOf (.bool x)) (cellsOf (.bool y)) = decide (x = y) := by cases x <;> cases y <;> rfl

theorem eqc_str (x y : List UInt8) : eqDs (cellsOf (.str x)) (cellsOf (.str y)) = decide (x = y) := by simp [cellsOf, eqDs, eqD]

theorem FrameRange.eqc (x y : FrameRange) : eqDs (cellsOf (.agg [I x.fLo, I x.fHi])) (cellsOf (.agg [I y.fLo, I y.fHi])) = decide (x = y) := by
  obtain ⟨_, _⟩ := x
  obtain ⟨_, _⟩ := y
  rw [Bool.eq_iff_iff]
  simp [cellsOf, eqDs, eqD, Ref01Law.mk.injEq, FrameLaw.mk.injEq, FrameGame.mk.injEq, FrameAt.mk.injEq, FramePlay.mk.injEq, FrameRange.mk.injEq, FrameGoal.mk.injEq, Ref01Stand.mk.injEq, Ref01Ball.mk.injEq, Ref01Game.mk.injEq, Ref01Range.mk.injEq, Ref01Tail.mk.injEq, Ar1.mk.injEq, Ar2.mk.injEq, Ar3.mk.injEq, Ar4.mk.injEq, Ar5.mk.injEq, and_assoc]

theorem FrameGoal.eqc (x y : FrameGoal) : eqDs (cellsOf (.agg [I x.fAt.fFrame, I x.fAt.fThrown, I x.fAt.fStanding, .bool x.fAt.fFresh, I x.fAt.fNeed, I x.fAt.fAfter.a0, I x.fAt.fAfter.a1, I x.fLeft])) (cellsOf (.agg [I y.fAt.fFrame, I y.fAt.fThrown, I y.fAt.fStanding, .bool y.fAt.fFresh, I y.fAt.fNeed, I y.fAt.fAfter.a0, I y.fAt.fAfter.a1, I y.fLeft])) = decide (x = y) := by
  obtain ⟨⟨_, _, _, _, _, ⟨_, _⟩⟩, _⟩ := x
  obtain ⟨⟨_, _, _, _, _, ⟨_, _⟩⟩, _⟩ := y
  rw [Bool.eq_iff_iff]
  simp [cellsOf, eqDs, eqD, Ref01Law.mk.injEq, FrameLaw.mk.injEq, FrameGame.mk.injEq, FrameAt.mk.injEq, FramePlay.mk.injEq, FrameRange.mk.injEq, FrameGoal.mk.injEq, Ref01Stand.mk.injEq, Ref01Ball.mk.injEq, Ref01Game.mk.injEq, Ref01Range.mk.injEq, Ref01Tail.mk.injEq, Ar1.mk.injEq, Ar2.mk.injEq, Ar3.mk.injEq, Ar4.mk.injEq, Ar5.mk.injEq, and_assoc]

theorem Ref01Tail.eqc (x y : Ref01Tail) : eqDs (cellsOf (.agg [I x.fStand.fFrame, I x.fStand.fThrown, I x.fStand.fStanding, .bool x.fStand.fSet, I x.fStand.fHas, I x.fOne, I x.fTwo])) (cellsOf (.agg [I y.fStand.fFrame, I y.fStand.fThrown, I y.fStand.fStanding, .bool y.fStand.fSet, I y.fStand.fHas, I y.fOne, I y.fTwo])) = decide (x = y) := by
  obtain ⟨⟨_, _, _, _, _⟩, _, _⟩ := x
  obtain ⟨⟨_, _, _, _, _⟩, _, _⟩ := y
  rw [Bool.eq_iff_iff]
  simp [cellsOf, eqDs, eqD, Ref01Law.mk.injEq, FrameLaw.mk.injEq, FrameGame.mk.injEq, FrameAt.mk.injEq, FramePlay.mk.injEq, FrameRange.mk.injEq, FrameGoal.mk.injEq, Ref01Stand.mk.injEq, Ref01Ball.mk.injEq, Ref01Game.mk.injEq, Ref01Range.mk.injEq, Ref01Tail.mk.injEq, Ar1.mk.injEq, Ar2.mk.injEq, Ar3.mk.injEq, Ar4.mk.injEq, Ar5.mk.injEq, and_assoc]
end Go.Proofs.Ythjafigloabfpaa
