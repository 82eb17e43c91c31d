/-
  Data of the program’s structs.
-/
import Derived.Test.YtmencjafjcmbaaaDef
import Derived.Test.YtmencjafjcmbaaaTt
import Derived.Test.YtmencjafjcmbaaaSort
import Derived.Test.YtmencjafjcmbaaaShelf
namespace Go.Proofs.Ytmencjafjcmbaaa
open Go Go.Abs Go.Kp
set_option maxRecDepth 100000
set_option maxHeartbeats 8000000
set_option linter.all false

def Ref07Law.enc (x : Ref07Law) : D := .agg [I x.fBase, I x.fPercent, I x.fCap, I x.fLeast, I x.fBlind]

def Ref07Sheet.enc (x : Ref07Sheet) : D := .agg [I x.fNumber, I x.fBowler, I x.fWeek, I x.fGames.a0, I x.fGames.a1, I x.fGames.a2]

def Ref07Book.enc (x : Ref07Book) : D := .agg [I x.fLaw.fBase, I x.fLaw.fPercent, I x.fLaw.fCap, I x.fLaw.fLeast, I x.fLaw.fBlind, .list 1 (List.map I x.fBowlers), .list 6 (List.map Ref07Sheet.enc x.fSheets), .list 1 (List.map I x.fWithdrawn)]

def RateLaw.enc (x : RateLaw) : D := .agg [I x.fBase, I x.fPercent, I x.fCap, I x.fLeast, I x.fBlind]

def RateSheet.enc (x : RateSheet) : D := .agg [I x.fNumber, I x.fBowler, I x.fWeek, I x.fGames.a0, I x.fGames.a1, I x.fGames.a2]

def RateBook.enc (x : RateBook) : D := .agg [I x.fLaw.fBase, I x.fLaw.fPercent, I x.fLaw.fCap, I x.fLaw.fLeast, I x.fLaw.fBlind, .list 1 (List.map I x.fBowlers), .list 6 (List.map RateSheet.enc x.fSheets), .list 1 (List.map I x.fWithdrawn)]

def RateTurn.enc (x : RateTurn) : D := .agg [I x.fBowler, I x.fWeek]

def RateRange.enc (x : RateRange) : D := .agg [I x.fLo, I x.fHi]

theorem eqc_int {k : IntKind} (x y : Int) : eqDs (cellsOf (.int k x)) (cellsOf (.int k y)) = decide (x = y) := by simp [cellsOf, eqDs, eqD]

theorem eqc_bool (x y : Bool) : eqDs (cellsOf (.bool x)) (cellsOf (.bool y)) = decide (x = y) := by cases x <;> cases y <;> rfl

theorem eqc_str (x y : List UInt8) : eqDs (cellsOf (.str x)) (cellsOf (.str y)) = decide (x = y) := by simp [cellsOf, eqDs, eqD]

theorem eqc_Ar3Inti64 (x y : Ar3 Int) : eqDs (cellsOf (.agg [I x.a0, I x.a1, I x.a2])) (cellsOf (.agg [I y.a0, I y.a1, I y.a2])) = decide (x = y) := by
  obtain ⟨_, _, _⟩ := x
  obtain ⟨_, _, _⟩ := y
  rw [Bool.eq_iff_iff]
  simp [cellsOf, eqDs, eqD, Ref07Law.mk.injEq, Ref07Sheet.mk.injEq, Ref07Book.mk.injEq, RateLaw.mk.injEq, RateSheet.mk.injEq, RateBook.mk.injEq, RateTurn.mk.injEq, RateRange.mk.injEq, Ar1.mk.injEq, Ar2.mk.injEq, Ar3.mk.injEq, Ar4.mk.injEq, Ar5.mk.injEq, and_assoc]

theorem RateRange.eqc (x y : RateRange) : eqDs (cellsOf (.agg [I x.fLo, I x.fHi])) (cellsOf (.agg [I y.fLo, I y.fHi])) = decide (x = y) := by
  obtain ⟨_, _⟩ := x
  obtain ⟨_, _⟩ := y
  rw [Bool.eq_iff_iff]
  simp [cellsOf, eqDs, eqD, Ref07Law.mk.injEq, Ref07Sheet.mk.injEq, Ref07Book.mk.injEq, RateLaw.mk.injEq, RateSheet.mk.injEq, RateBook.mk.injEq, RateTurn.mk.injEq, RateRange.mk.injEq, Ar1.mk.injEq, Ar2.mk.injEq, Ar3.mk.injEq, Ar4.mk.injEq, Ar5.mk.injEq, and_assoc]

theorem Ref07Sheet.eqc (x y : Ref07Sheet) : eqDs (cellsOf (.agg [I x.fNumber, I x.fBowler, I x.fWeek, I x.fGames.a0, I x.fGames.a1, I x.fGames.a2])) (cellsOf (.agg [I y.fNumber, I y.fBowler, I y.fWeek, I y.fGames.a0, I y.fGames.a1, I y.fGames.a2])) = decide (x = y) := by
  obtain ⟨_, _, _, ⟨_, _, _⟩⟩ := x
  obtain ⟨_, _, _, ⟨_, _, _⟩⟩ := y
  rw [Bool.eq_iff_iff]
  simp [cellsOf, eqDs, eqD, Ref07Law.mk.injEq, Ref07Sheet.mk.injEq, Ref07Book.mk.injEq, RateLaw.mk.injEq, RateSheet.mk.injEq, RateBook.mk.injEq, RateTurn.mk.injEq, RateRange.mk.injEq, Ar1.mk.injEq, Ar2.mk.injEq, Ar3.mk.injEq, Ar4.mk.injEq, Ar5.mk.injEq, and_assoc]

theorem RateTurn.eqc (x y : RateTurn) : eqDs (cellsOf (.agg [I x.fBowler, I x.fWeek])) (cellsOf (.agg [I y.fBowler, I y.fWeek])) = decide (x = y) := by
  obtain ⟨_, _⟩ := x
  obtain ⟨_, _⟩ := y
  rw [Bool.eq_iff_iff]
  simp [cellsOf, eqDs, eqD, Ref07Law.mk.injEq, Ref07Sheet.mk.injEq, Ref07Book.mk.injEq, RateLaw.mk.injEq, RateSheet.mk.injEq, RateBook.mk.injEq, RateTurn.mk.injEq, RateRange.mk.injEq, Ar1.mk.injEq, Ar2.mk.injEq, Ar3.mk.injEq, Ar4.mk.injEq, Ar5.mk.injEq, and_assoc]

theorem mulUC {N : Nat} (_ : N ≤ 1073741824) {x y : Int} {r : Int × Int} (h : mulUN N x y = some r) :
    ACalls Try.prog 83 [.d (.int .u64 x), .d (.int .u64 y)] [] (fun e os => e = .ret (.d (.tup [.int .u64 r.1, .int .u64 r.2])) ∧ os = []) :=
  mul_acalls Try.call83 h Try.bits_Mul

theorem sortIC {N : Nat} (hN : N ≤ 1073741824) {k : Nat} {l : List Int} {ho : Value} {r : List Int} (h : sortI N l = some r) :
    ACalls Try.prog 52 [.sl k ho] [(k, .arr ho 3 1 false (List.map I l))] (fun ae os => ∃ y : Unit, True ∧ ae = .ret (.d (.tup [])) ∧ os = [(k, .arr ho 3 1 false (List.map I r))]) :=
  sort_acalls Try.call52 hN h Try.slices_Sort_int Try.slices_Sort_int_none
end Go.Proofs.Ytmencjafjcmbaaa
