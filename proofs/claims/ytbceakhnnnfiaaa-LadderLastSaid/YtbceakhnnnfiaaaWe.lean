/-
  Data of the program’s structs.
-/
import Derived.Test.YtbceakhnnnfiaaaDef
import Derived.Test.YtbceakhnnnfiaaaTt
namespace Go.Proofs.Ytbceakhnnnfiaaa
open Go Go.Abs Go.Kp
set_option maxRecDepth 100000
set_option maxHeartbeats 8000000
set_option linter.all false
def Ref09Result.enc (x : Ref09Result) : D := .agg [I x.fMatch, .list 1 (List.map I x.fGames), .bool x.fProtested]
def Ref09Cup.enc (x : Ref09Cup) : D := .agg [.int .u8 x.fForm, I x.fPlayers, I x.fGames, .list 3 (List.map Ref09Result.enc x.fResults)]
def Ref09Side.enc (x : Ref09Side) : D := .agg [I x.fPlayer, I x.fMatch]
def Ref09Pair.enc (x : Ref09Pair) : D := .agg [I x.fFirst.fPlayer, I x.fFirst.fMatch, I x.fSecond.fPlayer, I x.fSecond.fMatch]
def LadderResult.enc (x : LadderResult) : D := .agg [I x.fMatch, .list 1 (List.map I x.fGames), .bool x.fProtested]
def LadderCup.enc (x : LadderCup) : D := .agg [.int .u8 x.fForm, I x.fPlayers, I x.fGames, .list 3 (List.map LadderResult.enc x.fResults)]
def LadderMatch.enc (x : LadderMatch) : D := .agg [I x.fNumber, I x.fFirst, I x.fSecond, I x.fWon, I x.fLost]
def LadderSide.enc (x : LadderSide) : D := .agg [I x.fPlayer, I x.fMatch]
def LadderPair.enc (x : LadderPair) : D := .agg [I x.fFirst.fPlayer, I x.fFirst.fMatch, I x.fSecond.fPlayer, I x.fSecond.fMatch]
def LadderSpot.enc (x : LadderSpot) : D := .agg [I x.fMatch, I x.fPlayer]
def LadderCheapest.enc (x : LadderCheapest) : D := .agg [I x.fUpsets, I x.fOther]
def Ref09Match.enc (x : Ref09Match) : D := .agg [I x.fNumber, I x.fFirst, I x.fSecond, I x.fWon, I x.fLost]
theorem eqc_int {k : IntKind} (x y : Int) : eqDs (cellsOf (.int k x)) (cellsOf (.int k y)) = decide (x = y) := by simp [cellsOf, eqDs, eqD]
theorem eqc_Ar2Inti64 (x y : Ar2 Int) : eqDs (cellsOf (.agg [I x.a0, I x.a1])) (cellsOf (.agg [I y.a0, I y.a1])) = decide (x = y) := by
  obtain ⟨_, _⟩ := x
  obtain ⟨_, _⟩ := y
  rw [Bool.eq_iff_iff]
  simp [cellsOf, eqDs, eqD, Ref09Result.mk.injEq, Ref09Cup.mk.injEq, Ref09Side.mk.injEq, Ref09Pair.mk.injEq, LadderResult.mk.injEq, LadderCup.mk.injEq, LadderMatch.mk.injEq, LadderSide.mk.injEq, LadderPair.mk.injEq, LadderSideT125.mk.injEq, LadderSpot.mk.injEq, LadderCheapest.mk.injEq, Ref09Match.mk.injEq, Ar1.mk.injEq, Ar2.mk.injEq, Ar3.mk.injEq, Ar4.mk.injEq, Ar5.mk.injEq, and_assoc]
theorem LadderMatch.eqc (x y : LadderMatch) : eqDs (cellsOf (.agg [I x.fNumber, I x.fFirst, I x.fSecond, I x.fWon, I x.fLost])) (cellsOf (.agg [I y.fNumber, I y.fFirst, I y.fSecond, I y.fWon, I y.fLost])) = decide (x = y) := by
  obtain ⟨_, _, _, _, _⟩ := x
  obtain ⟨_, _, _, _, _⟩ := y
  rw [Bool.eq_iff_iff]
  simp [cellsOf, eqDs, eqD, Ref09Result.mk.injEq, Ref09Cup.mk.injEq, Ref09Side.mk.injEq, Ref09Pair.mk.injEq, LadderResult.mk.injEq, LadderCup.mk.injEq, LadderMatch.mk.injEq, LadderSide.mk.injEq, LadderPair.mk.injEq, LadderSideT125.mk.injEq, LadderSpot.mk.injEq, LadderCheapest.mk.injEq, Ref09Match.mk.injEq, Ar1.mk.injEq, Ar2.mk.injEq, Ar3.mk.injEq, Ar4.mk.injEq, Ar5.mk.injEq, and_assoc]
theorem LadderSide.eqc (x y : LadderSide) : eqDs (cellsOf (.agg [I x.fPlayer, I x.fMatch])) (cellsOf (.agg [I y.fPlayer, I y.fMatch])) = decide (x = y) := by
  obtain ⟨_, _⟩ := x
  obtain ⟨_, _⟩ := y
  rw [Bool.eq_iff_iff]
  simp [cellsOf, eqDs, eqD, Ref09Result.mk.injEq, Ref09Cup.mk.injEq, Ref09Side.mk.injEq, Ref09Pair.mk.injEq, LadderResult.mk.injEq, LadderCup.mk.injEq, LadderMatch.mk.injEq, LadderSide.mk.injEq, LadderPair.mk.injEq, LadderSideT125.mk.injEq, LadderSpot.mk.injEq, LadderCheapest.mk.injEq, Ref09Match.mk.injEq, Ar1.mk.injEq, Ar2.mk.injEq, Ar3.mk.injEq, Ar4.mk.injEq, Ar5.mk.injEq, and_assoc]
theorem LadderPair.eqc (x y : LadderPair) : eqDs (cellsOf (.agg [I x.fFirst.fPlayer, I x.fFirst.fMatch, I x.fSecond.fPlayer, I x.fSecond.fMatch])) (cellsOf (.agg [I y.fFirst.fPlayer, I y.fFirst.fMatch, I y.fSecond.fPlayer, I y.fSecond.fMatch])) = decide (x = y) := by
  obtain ⟨⟨_, _⟩, ⟨_, _⟩⟩ := x
  obtain ⟨⟨_, _⟩, ⟨_, _⟩⟩ := y
  rw [Bool.eq_iff_iff]
  simp [cellsOf, eqDs, eqD, Ref09Result.mk.injEq, Ref09Cup.mk.injEq, Ref09Side.mk.injEq, Ref09Pair.mk.injEq, LadderResult.mk.injEq, LadderCup.mk.injEq, LadderMatch.mk.injEq, LadderSide.mk.injEq, LadderPair.mk.injEq, LadderSideT125.mk.injEq, LadderSpot.mk.injEq, LadderCheapest.mk.injEq, Ref09Match.mk.injEq, Ar1.mk.injEq, Ar2.mk.injEq, Ar3.mk.injEq, Ar4.mk.injEq, Ar5.mk.injEq, and_assoc]
theorem LadderSpot.eqc (x y : LadderSpot) : eqDs (cellsOf (.agg [I x.fMatch, I x.fPlayer])) (cellsOf (.agg [I y.fMatch, I y.fPlayer])) = decide (x = y) := by
  obtain ⟨_, _⟩ := x
  obtain ⟨_, _⟩ := y
  rw [Bool.eq_iff_iff]
  simp [cellsOf, eqDs, eqD, Ref09Result.mk.injEq, Ref09Cup.mk.injEq, Ref09Side.mk.injEq, Ref09Pair.mk.injEq, LadderResult.mk.injEq, LadderCup.mk.injEq, LadderMatch.mk.injEq, LadderSide.mk.injEq, LadderPair.mk.injEq, LadderSideT125.mk.injEq, LadderSpot.mk.injEq, LadderCheapest.mk.injEq, Ref09Match.mk.injEq, Ar1.mk.injEq, Ar2.mk.injEq, Ar3.mk.injEq, Ar4.mk.injEq, Ar5.mk.injEq, and_assoc]
end Go.Proofs.Ytbceakhnnnfiaaa
