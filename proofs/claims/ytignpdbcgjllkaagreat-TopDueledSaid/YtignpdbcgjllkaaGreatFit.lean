/-
 Arguments: cells that fit a type are a typed value.
-/
import Derived.Test.YtignpdbcgjllkaaGreatWe
import Derived.Test.YtignpdbcgjllkaaGreatOpen
namespace Go.Proofs.YtignpdbcgjllkaaGreat
open Go Go.Abs Go.Kp
set_option maxRecDepth 100000
set_option maxHeartbeats 8000000
set_option linter.all false
theorem fit3 {F : Nat} (hF : 1 ≤ F) {ds : List D} (h : Fit Tryz.prog F 3 ds) : ∃ x : Int, ds = cellsOf (I x) ∧ (fits .i64 x) := by
 obtain ⟨F, rfl⟩ : ∃ G, F = G + 1 := ⟨F - 1, by omega⟩
 unfold Fit at h
 rw [Tryz.underlying3] at h
 obtain ⟨n, rfl, hn⟩ := h
 exact ⟨n, rfl, hn⟩
theorem fit23 {F : Nat} (hF : 2 ≤ F) {ds : List D} (h : Fit Tryz.prog F 23 ds) : ∃ x : Ref07Law, ds = cellsOf (.agg [I x.fBase, I x.fPercent, I x.fCap, I x.fLeast, I x.fBlind]) ∧ ((fits .i64 x.fBase) ∧ (fits .i64 x.fPercent) ∧ (fits .i64 x.fCap) ∧ (fits .i64 x.fLeast) ∧ (fits .i64 x.fBlind)) := by
 obtain ⟨F, rfl⟩ : ∃ G, F = G + 1 := ⟨F - 1, by omega⟩
 unfold Fit at h
 rw [Tryz.underlying23] at h
 simp only [FitFs] at h
 obtain ⟨a0, b0, rfl, _, p0, h⟩ := h
 obtain ⟨y0, rfl, f0⟩ := fit3 (F := F) (by omega) p0
 obtain ⟨a1, b1, rfl, _, p1, h⟩ := h
 obtain ⟨y1, rfl, f1⟩ := fit3 (F := F) (by omega) p1
 obtain ⟨a2, b2, rfl, _, p2, h⟩ := h
 obtain ⟨y2, rfl, f2⟩ := fit3 (F := F) (by omega) p2
 obtain ⟨a3, b3, rfl, _, p3, h⟩ := h
 obtain ⟨y3, rfl, f3⟩ := fit3 (F := F) (by omega) p3
 obtain ⟨a4, b4, rfl, _, p4, h⟩ := h
 obtain ⟨y4, rfl, f4⟩ := fit3 (F := F) (by omega) p4
 subst h
 exact ⟨⟨y0, y1, y2, y3, y4⟩, rfl, f0, f1, f2, f3, f4⟩
theorem fit24 {F : Nat} (hF : 2 ≤ F) {ds : List D} (h : Fit Tryz.prog F 24 ds) : ∃ x : List Int, ds = cellsOf (.list 1 (List.map I x)) ∧ (∀ y0 ∈ x, fits .i64 y0) := by
 obtain ⟨F, rfl⟩ : ∃ G, F = G + 1 := ⟨F - 1, by omega⟩
 unfold Fit at h
 rw [Tryz.underlying24] at h
 obtain ⟨xs, rfl, hx⟩ := h
 have e1 : isAggT Tryz.prog 3 = false := by unfold isAggT; rw [Tryz.underlying3]
 have e2 : Tryz.prog.cellsOf 3 = 1 := by kernel_rfl
 rw [e1] at hx
 rw [e2]
 obtain ⟨ys, rfl, hy⟩ : ∃ ys : List Int, xs = List.map I ys ∧ ∀ y0 ∈ ys, fits .i64 y0 := by
  clear e1 e2
  induction xs with
  | nil => exact ⟨[], rfl, fun _ h => by cases h⟩
  | cons x xs ih =>
   obtain ⟨es, rfl, _, he⟩ := hx x (by simp)
   obtain ⟨y, rfl, hy⟩ := fit3 (F := F) (by omega) he
   obtain ⟨ys, rfl, hys⟩ := ih fun z hz => hx z (by simp [hz])
   refine ⟨y :: ys, rfl, fun z hz => ?_⟩
   rcases List.mem_cons.1 hz with rfl | hz
   ·exact hy
   ·exact hys z hz
 exact ⟨ys, rfl, hy⟩
theorem fit76 {F : Nat} (hF : 2 ≤ F) {ds : List D} (h : Fit Tryz.prog F 76 ds) : ∃ x : Ar3 Int, ds = cellsOf (.agg [I x.a0, I x.a1, I x.a2]) ∧ ((fits .i64 x.a0) ∧ (fits .i64 x.a1) ∧ (fits .i64 x.a2)) := by
 obtain ⟨F, rfl⟩ : ∃ G, F = G + 1 := ⟨F - 1, by omega⟩
 unfold Fit at h
 rw [Tryz.underlying76] at h
 simp only [FitN] at h
 obtain ⟨a0, b0, rfl, _, p0, h⟩ := h
 obtain ⟨y0, rfl, f0⟩ := fit3 (F := F) (by omega) p0
 obtain ⟨a1, b1, rfl, _, p1, h⟩ := h
 obtain ⟨y1, rfl, f1⟩ := fit3 (F := F) (by omega) p1
 obtain ⟨a2, b2, rfl, _, p2, h⟩ := h
 obtain ⟨y2, rfl, f2⟩ := fit3 (F := F) (by omega) p2
 subst h
 exact ⟨⟨y0, y1, y2⟩, rfl, f0, f1, f2⟩
theorem fit78 {F : Nat} (hF : 3 ≤ F) {ds : List D} (h : Fit Tryz.prog F 78 ds) : ∃ x : Ref07Sheet, ds = cellsOf (.agg [I x.fNumber, I x.fBowler, I x.fWeek, I x.fGames.a0, I x.fGames.a1, I x.fGames.a2]) ∧ ((fits .i64 x.fNumber) ∧ (fits .i64 x.fBowler) ∧ (fits .i64 x.fWeek) ∧ ((fits .i64 x.fGames.a0) ∧ (fits .i64 x.fGames.a1) ∧ (fits .i64 x.fGames.a2))) := by
 obtain ⟨F, rfl⟩ : ∃ G, F = G + 1 := ⟨F - 1, by omega⟩
 unfold Fit at h
 rw [Tryz.underlying78] at h
 simp only [FitFs] at h
 obtain ⟨a0, b0, rfl, _, p0, h⟩ := h
 obtain ⟨y0, rfl, f0⟩ := fit3 (F := F) (by omega) p0
 obtain ⟨a1, b1, rfl, _, p1, h⟩ := h
 obtain ⟨y1, rfl, f1⟩ := fit3 (F := F) (by omega) p1
 obtain ⟨a2, b2, rfl, _, p2, h⟩ := h
 obtain ⟨y2, rfl, f2⟩ := fit3 (F := F) (by omega) p2
 obtain ⟨a3, b3, rfl, _, p3, h⟩ := h
 obtain ⟨y3, rfl, f3⟩ := fit76 (F := F) (by omega) p3
 subst h
 exact ⟨⟨y0, y1, y2, y3⟩, rfl, f0, f1, f2, f3⟩
theorem fit25 {F : Nat} (hF : 4 ≤ F) {ds : List D} (h : Fit Tryz.prog F 25 ds) : ∃ x : List Ref07Sheet, ds = cellsOf (.list 6 (List.map Ref07Sheet.enc x)) ∧ (∀ y0 ∈ x, (fits .i64 y0.fNumber) ∧ (fits .i64 y0.fBowler) ∧ (fits .i64 y0.fWeek) ∧ ((fits .i64 y0.fGames.a0) ∧ (fits .i64 y0.fGames.a1) ∧ (fits .i64 y0.fGames.a2))) := by
 obtain ⟨F, rfl⟩ : ∃ G, F = G + 1 := ⟨F - 1, by omega⟩
 unfold Fit at h
 rw [Tryz.underlying25] at h
 obtain ⟨xs, rfl, hx⟩ := h
 have e1 : isAggT Tryz.prog 78 = true := by unfold isAggT; rw [Tryz.underlying78]
 have e2 : Tryz.prog.cellsOf 78 = 6 := by kernel_rfl
 rw [e1] at hx
 rw [e2]
 obtain ⟨ys, rfl, hy⟩ : ∃ ys : List Ref07Sheet, xs = List.map Ref07Sheet.enc ys ∧ ∀ y0 ∈ ys, (fits .i64 y0.fNumber) ∧ (fits .i64 y0.fBowler) ∧ (fits .i64 y0.fWeek) ∧ ((fits .i64 y0.fGames.a0) ∧ (fits .i64 y0.fGames.a1) ∧ (fits .i64 y0.fGames.a2)) := by
  clear e1 e2
  induction xs with
  | nil => exact ⟨[], rfl, fun _ h => by cases h⟩
  | cons x xs ih =>
   obtain ⟨es, rfl, _, he⟩ := hx x (by simp)
   obtain ⟨y, rfl, hy⟩ := fit78 (F := F) (by omega) he
   obtain ⟨ys, rfl, hys⟩ := ih fun z hz => hx z (by simp [hz])
   refine ⟨y :: ys, rfl, fun z hz => ?_⟩
   rcases List.mem_cons.1 hz with rfl | hz
   ·exact hy
   ·exact hys z hz
 exact ⟨ys, rfl, hy⟩
theorem fit27 {F : Nat} (hF : 5 ≤ F) {ds : List D} (h : Fit Tryz.prog F 27 ds) : ∃ x : Ref07Book, ds = cellsOf (.agg [I x.fLaw.fBase, I x.fLaw.fPercent, I x.fLaw.fCap, I x.fLaw.fLeast, I x.fLaw.fBlind, .list 1 (List.map I x.fBowlers), .list 6 (List.map Ref07Sheet.enc x.fSheets), .list 1 (List.map I x.fWithdrawn)]) ∧ (((fits .i64 x.fLaw.fBase) ∧ (fits .i64 x.fLaw.fPercent) ∧ (fits .i64 x.fLaw.fCap) ∧ (fits .i64 x.fLaw.fLeast) ∧ (fits .i64 x.fLaw.fBlind)) ∧ (∀ y0 ∈ x.fBowlers, fits .i64 y0) ∧ (∀ y0 ∈ x.fSheets, (fits .i64 y0.fNumber) ∧ (fits .i64 y0.fBowler) ∧ (fits .i64 y0.fWeek) ∧ ((fits .i64 y0.fGames.a0) ∧ (fits .i64 y0.fGames.a1) ∧ (fits .i64 y0.fGames.a2))) ∧ (∀ y0 ∈ x.fWithdrawn, fits .i64 y0)) := by
 obtain ⟨F, rfl⟩ : ∃ G, F = G + 1 := ⟨F - 1, by omega⟩
 unfold Fit at h
 rw [Tryz.underlying27] at h
 simp only [FitFs] at h
 obtain ⟨a0, b0, rfl, _, p0, h⟩ := h
 obtain ⟨y0, rfl, f0⟩ := fit23 (F := F) (by omega) p0
 obtain ⟨a1, b1, rfl, _, p1, h⟩ := h
 obtain ⟨y1, rfl, f1⟩ := fit24 (F := F) (by omega) p1
 obtain ⟨a2, b2, rfl, _, p2, h⟩ := h
 obtain ⟨y2, rfl, f2⟩ := fit25 (F := F) (by omega) p2
 obtain ⟨a3, b3, rfl, _, p3, h⟩ := h
 obtain ⟨y3, rfl, f3⟩ := fit24 (F := F) (by omega) p3
 subst h
 exact ⟨⟨y0, y1, y2, y3⟩, rfl, f0, f1, f2, f3⟩
theorem fit5 {F : Nat} (hF : 1 ≤ F) {ds : List D} (h : Fit Tryz.prog F 5 ds) : ∃ x : Int, ds = cellsOf (.int .u8 x) ∧ (fits .u8 x) := by
 obtain ⟨F, rfl⟩ : ∃ G, F = G + 1 := ⟨F - 1, by omega⟩
 unfold Fit at h
 rw [Tryz.underlying5] at h
 obtain ⟨n, rfl, hn⟩ := h
 exact ⟨n, rfl, hn⟩
end Go.Proofs.YtignpdbcgjllkaaGreat
