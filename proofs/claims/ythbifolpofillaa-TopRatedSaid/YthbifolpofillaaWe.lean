/-
  Data of the program’s structs.
-/
import Derived.Test.YthbifolpofillaaDef
import Derived.Test.YthbifolpofillaaTt
namespace Go.Proofs.Ythbifolpofillaa
open Go Go.Abs Go.Kp
set_option maxRecDepth 100000
set_option maxHeartbeats 8000000
set_option linter.all false

def Ref01Law.enc (x : Ref01Law) : D := .agg [I x.fFrames, I x.fPins, I x.fBalls, I x.fTap]

def FrameLaw.enc (x : FrameLaw) : D := .agg [I x.fFrames, I x.fPins, I x.fBalls, I x.fTap]

def FrameRange.enc (x : FrameRange) : D := .agg [I x.fLo, I x.fHi]

def FrameAt.enc (x : FrameAt) : D := .agg [I x.fFrame, I x.fThrown, I x.fStanding, .bool x.fFresh, I x.fNeed, I x.fAfter.a0, I x.fAfter.a1]

def FramePlay.enc (x : FramePlay) : D := .agg [I x.fLaw.fFrames, I x.fLaw.fPins, I x.fLaw.fBalls, I x.fLaw.fTap, I x.fAt.fFrame, I x.fAt.fThrown, I x.fAt.fStanding, .bool x.fAt.fFresh, I x.fAt.fNeed, I x.fAt.fAfter.a0, I x.fAt.fAfter.a1]

def RateLaw.enc (x : RateLaw) : D := .agg [I x.fBase, I x.fPercent, I x.fCap, I x.fLeast, I x.fBlind]

def RateSheet.enc (x : RateSheet) : D := .agg [I x.fNumber, I x.fBowler, I x.fWeek, I x.fGames.a0, I x.fGames.a1, I x.fGames.a2]

def RateBook.enc (x : RateBook) : D := .agg [I x.fLaw.fBase, I x.fLaw.fPercent, I x.fLaw.fCap, I x.fLaw.fLeast, I x.fLaw.fBlind, .list 1 (List.map I x.fBowlers), .list 6 (List.map RateSheet.enc x.fSheets), .list 1 (List.map I x.fWithdrawn)]

def RateTurn.enc (x : RateTurn) : D := .agg [I x.fBowler, I x.fWeek]

def Ref01Stand.enc (x : Ref01Stand) : D := .agg [I x.fFrame, I x.fThrown, I x.fStanding, .bool x.fSet, I x.fHas]

def Ref01Ball.enc (x : Ref01Ball) : D := .agg [I x.fFrame, I x.fCount]

def FrameGame.enc (x : FrameGame) : D := .agg [.list 1 (List.map (fun x => .list 1 (List.map I x)) x.fFrames), .list 1 (List.map I x.fCounts), I x.fStanding, .bool x.fDone]

theorem eqc_int {k : IntKind} (x y : Int) : eqDs (cellsOf (.int k x)) (cellsOf (.int k y)) = decide (x = y) := by simp [cellsOf, eqDs, eqD]

theorem eqc_bool (x y : Bool) : eqDs (cellsOf (.bool x)) (cellsOf (.bool y)) = decide (x = y) := by cases x <;> cases y <;> rfl

theorem eqc_str (x y : List UInt8) : eqDs (cellsOf (.str x)) (cellsOf (.str y)) = decide (x = y) := by simp [cellsOf, eqDs, eqD]

theorem eqc_Ar3Inti64 (x y : Ar3 Int) : eqDs (cellsOf (.agg [I x.a0, I x.a1, I x.a2])) (cellsOf (.agg [I y.a0, I y.a1, I y.a2])) = decide (x = y) := by
  obtain ⟨_, _, _⟩ := x
  obtain ⟨_, _, _⟩ := y
  rw [Bool.eq_iff_iff]
  simp [cellsOf, eqDs, eqD, Ref01Law.mk.injEq, FrameLaw.mk.injEq, FrameRange.mk.injEq, FrameAt.mk.injEq, FramePlay.mk.injEq, RateLaw.mk.injEq, RateSheet.mk.injEq, RateBook.mk.injEq, RateTurn.mk.injEq, Ref01Stand.mk.injEq, Ref01Ball.mk.injEq, FrameGame.mk.injEq, Ar1.mk.injEq, Ar2.mk.injEq, Ar3.mk.injEq, Ar4.mk.injEq, Ar5.mk.injEq, and_assoc]

theorem FrameRange.eqc (x y : FrameRange) : eqDs (cellsOf (.agg [I x.fLo, I x.fHi])) (cellsOf (.agg [I y.fLo, I y.fHi])) = decide (x = y) := by
  obtain ⟨_, _⟩ := x
  obtain ⟨_, _⟩ := y
  rw [Bool.eq_iff_iff]
  simp [cellsOf, eqDs, eqD, Ref01Law.mk.injEq, FrameLaw.mk.injEq, FrameRange.mk.injEq, FrameAt.mk.injEq, FramePlay.mk.injEq, RateLaw.mk.injEq, RateSheet.mk.injEq, RateBook.mk.injEq, RateTurn.mk.injEq, Ref01Stand.mk.injEq, Ref01Ball.mk.injEq, FrameGame.mk.injEq, Ar1.mk.injEq, Ar2.mk.injEq, Ar3.mk.injEq, Ar4.mk.injEq, Ar5.mk.injEq, and_assoc]

theorem RateTurn.eqc (x y : RateTurn) : eqDs (cellsOf (.agg [I x.fBowler, I x.fWeek])) (cellsOf (.agg [I y.fBowler, I y.fWeek])) = decide (x = y) := by
  obtain ⟨_, _⟩ := x
  obtain ⟨_, _⟩ := y
  rw [Bool.eq_iff_iff]
  simp [cellsOf, eqDs, eqD, Ref01Law.mk.injEq, FrameLaw.mk.injEq, FrameRange.mk.injEq, FrameAt.mk.injEq, FramePlay.mk.injEq, RateLaw.mk.injEq, RateSheet.mk.injEq, RateBook.mk.injEq, RateTurn.mk.injEq, Ref01Stand.mk.injEq, Ref01Ball.mk.injEq, FrameGame.mk.injEq, Ar1.mk.injEq, Ar2.mk.injEq, Ar3.mk.injEq, Ar4.mk.injEq, Ar5.mk.injEq, and_assoc]
end Go.Proofs.Ythbifolpofillaa
