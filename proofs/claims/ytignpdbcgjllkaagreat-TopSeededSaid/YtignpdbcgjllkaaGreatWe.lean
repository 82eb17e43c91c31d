/-
 Data of the program’s structs.
-/
import Derived.Test.YtignpdbcgjllkaaGreatDef
import Derived.Test.YtignpdbcgjllkaaGreatTt
import Derived.Test.YtignpdbcgjllkaaGreatSort
import Derived.Test.YtignpdbcgjllkaaGreatShelf
namespace Go.Proofs.YtignpdbcgjllkaaGreat
open Go Go.Abs Go.Kp
set_option maxRecDepth 100000
set_option maxHeartbeats 8000000
set_option linter.all false
def fnv116 (x : Int) : Nat := match x.toNat with | 0 => 78 | 1 => 79 | 2 => 80 | _ => 81
def Ref08Game.enc (x : Ref08Game) : D := .agg [I x.fA, I x.fB, I x.fPinsA, I x.fPinsB, .bool x.fOpen]
def Ref08League.enc (x : Ref08League) : D := .agg [I x.fTeams, .list 5 (List.map Ref08Game.enc x.fGames)]
def RateLaw.enc (x : RateLaw) : D := .agg [I x.fBase, I x.fPercent, I x.fCap, I x.fLeast, I x.fBlind]
def RateSheet.enc (x : RateSheet) : D := .agg [I x.fNumber, I x.fBowler, I x.fWeek, I x.fGames.a0, I x.fGames.a1, I x.fGames.a2]
def RateBook.enc (x : RateBook) : D := .agg [I x.fLaw.fBase, I x.fLaw.fPercent, I x.fLaw.fCap, I x.fLaw.fLeast, I x.fLaw.fBlind, .list 1 (List.map I x.fBowlers), .list 6 (List.map RateSheet.enc x.fSheets), .list 1 (List.map I x.fWithdrawn)]
def RateTurn.enc (x : RateTurn) : D := .agg [I x.fBowler, I x.fWeek]
def LeagueGame.enc (x : LeagueGame) : D := .agg [I x.fA, I x.fB, I x.fPinsA, I x.fPinsB, .bool x.fOpen]
def LeagueLeague.enc (x : LeagueLeague) : D := .agg [I x.fTeams, .list 5 (List.map LeagueGame.enc x.fGames)]
def LeagueRuled.enc (x : LeagueRuled) : D := .agg [.fn (.func (fnv116 x.fOf)) [] []]
def LeagueTable.enc (x : LeagueTable) : D := .agg [I x.fLeague.fTeams, .list 5 (List.map LeagueGame.enc x.fLeague.fGames)]
def LeagueSide.enc (x : LeagueSide) : D := .agg [I x.fOther, I x.fPoints, I x.fPins]
def LadderResult.enc (x : LadderResult) : D := .agg [I x.fMatch, .list 1 (List.map I x.fGames), .bool x.fProtested]
def LadderCup.enc (x : LadderCup) : D := .agg [.int .u8 x.fForm, I x.fPlayers, I x.fGames, .list 3 (List.map LadderResult.enc x.fResults)]
def LadderSide.enc (x : LadderSide) : D := .agg [I x.fPlayer, I x.fMatch]
def LadderPair.enc (x : LadderPair) : D := .agg [I x.fFirst.fPlayer, I x.fFirst.fMatch, I x.fSecond.fPlayer, I x.fSecond.fMatch]
def LadderSpot.enc (x : LadderSpot) : D := .agg [I x.fMatch, I x.fPlayer]
def LadderCheapest.enc (x : LadderCheapest) : D := .agg [I x.fUpsets, I x.fOther]
def Ref09Result.enc (x : Ref09Result) : D := .agg [I x.fMatch, .list 1 (List.map I x.fGames), .bool x.fProtested]
def Ref09Cup.enc (x : Ref09Cup) : D := .agg [.int .u8 x.fForm, I x.fPlayers, I x.fGames, .list 3 (List.map Ref09Result.enc x.fResults)]
def LadderMatch.enc (x : LadderMatch) : D := .agg [I x.fNumber, I x.fFirst, I x.fSecond, I x.fWon, I x.fLost]
theorem eqc_int {k : IntKind} (x y : Int) : eqDs (cellsOf (.int k x)) (cellsOf (.int k y)) = decide (x = y) := by simp [cellsOf, eqDs, eqD]
theorem eqc_Ar2Inti64 (x y : Ar2 Int) : eqDs (cellsOf (.agg [I x.a0, I x.a1])) (cellsOf (.agg [I y.a0, I y.a1])) = decide (x = y) := by
 obtain ⟨_, _⟩ := x
 obtain ⟨_, _⟩ := y
 rw [Bool.eq_iff_iff]
 simp [cellsOf, eqDs, eqD, Ref08Game.mk.injEq, Ref08League.mk.injEq, RateLaw.mk.injEq, RateSheet.mk.injEq, RateBook.mk.injEq, RateTurn.mk.injEq, LeagueGame.mk.injEq, LeagueLeague.mk.injEq, LeagueRuled.mk.injEq, LeagueTable.mk.injEq, LeagueSide.mk.injEq, LadderResult.mk.injEq, LadderCup.mk.injEq, LadderSide.mk.injEq, LadderPair.mk.injEq, LadderSideT174.mk.injEq, LadderSpot.mk.injEq, LadderCheapest.mk.injEq, Ref09Result.mk.injEq, Ref09Cup.mk.injEq, LadderMatch.mk.injEq, Ar1.mk.injEq, Ar2.mk.injEq, Ar3.mk.injEq, Ar4.mk.injEq, Ar5.mk.injEq, and_assoc]
theorem LadderSpot.eqc (x y : LadderSpot) : eqDs (cellsOf (.agg [I x.fMatch, I x.fPlayer])) (cellsOf (.agg [I y.fMatch, I y.fPlayer])) = decide (x = y) := by
 obtain ⟨_, _⟩ := x
 obtain ⟨_, _⟩ := y
 rw [Bool.eq_iff_iff]
 simp [cellsOf, eqDs, eqD, Ref08Game.mk.injEq, Ref08League.mk.injEq, RateLaw.mk.injEq, RateSheet.mk.injEq, RateBook.mk.injEq, RateTurn.mk.injEq, LeagueGame.mk.injEq, LeagueLeague.mk.injEq, LeagueRuled.mk.injEq, LeagueTable.mk.injEq, LeagueSide.mk.injEq, LadderResult.mk.injEq, LadderCup.mk.injEq, LadderSide.mk.injEq, LadderPair.mk.injEq, LadderSideT174.mk.injEq, LadderSpot.mk.injEq, LadderCheapest.mk.injEq, Ref09Result.mk.injEq, Ref09Cup.mk.injEq, LadderMatch.mk.injEq, Ar1.mk.injEq, Ar2.mk.injEq, Ar3.mk.injEq, Ar4.mk.injEq, Ar5.mk.injEq, and_assoc]
theorem RateTurn.eqc (x y : RateTurn) : eqDs (cellsOf (.agg [I x.fBowler, I x.fWeek])) (cellsOf (.agg [I y.fBowler, I y.fWeek])) = decide (x = y) := by
 obtain ⟨_, _⟩ := x
 obtain ⟨_, _⟩ := y
 rw [Bool.eq_iff_iff]
 simp [cellsOf, eqDs, eqD, Ref08Game.mk.injEq, Ref08League.mk.injEq, RateLaw.mk.injEq, RateSheet.mk.injEq, RateBook.mk.injEq, RateTurn.mk.injEq, LeagueGame.mk.injEq, LeagueLeague.mk.injEq, LeagueRuled.mk.injEq, LeagueTable.mk.injEq, LeagueSide.mk.injEq, LadderResult.mk.injEq, LadderCup.mk.injEq, LadderSide.mk.injEq, LadderPair.mk.injEq, LadderSideT174.mk.injEq, LadderSpot.mk.injEq, LadderCheapest.mk.injEq, Ref09Result.mk.injEq, Ref09Cup.mk.injEq, LadderMatch.mk.injEq, Ar1.mk.injEq, Ar2.mk.injEq, Ar3.mk.injEq, Ar4.mk.injEq, Ar5.mk.injEq, and_assoc]
theorem LadderSide.eqc (x y : LadderSide) : eqDs (cellsOf (.agg [I x.fPlayer, I x.fMatch])) (cellsOf (.agg [I y.fPlayer, I y.fMatch])) = decide (x = y) := by
 obtain ⟨_, _⟩ := x
 obtain ⟨_, _⟩ := y
 rw [Bool.eq_iff_iff]
 simp [cellsOf, eqDs, eqD, Ref08Game.mk.injEq, Ref08League.mk.injEq, RateLaw.mk.injEq, RateSheet.mk.injEq, RateBook.mk.injEq, RateTurn.mk.injEq, LeagueGame.mk.injEq, LeagueLeague.mk.injEq, LeagueRuled.mk.injEq, LeagueTable.mk.injEq, LeagueSide.mk.injEq, LadderResult.mk.injEq, LadderCup.mk.injEq, LadderSide.mk.injEq, LadderPair.mk.injEq, LadderSideT174.mk.injEq, LadderSpot.mk.injEq, LadderCheapest.mk.injEq, Ref09Result.mk.injEq, Ref09Cup.mk.injEq, LadderMatch.mk.injEq, Ar1.mk.injEq, Ar2.mk.injEq, Ar3.mk.injEq, Ar4.mk.injEq, Ar5.mk.injEq, and_assoc]
theorem sortIC {N : Nat} (hN : N ≤ 1073741824) {k : Nat} {l : List Int} {ho : Value} {r : List Int} (h : sortI N l = some r) :
  ACalls Tryz.prog 64 [.sl k ho] [(k, .arr ho 3 1 false (List.map I l))] (fun ae os => ∃ y : Unit, True ∧ ae = .ret (.d (.tup [])) ∧ os = [(k, .arr ho 3 1 false (List.map I r))]) :=
 sort_acalls Tryz.call64 hN h Tryz.slices_Sort_int Tryz.slices_Sort_int_none
end Go.Proofs.YtignpdbcgjllkaaGreat
