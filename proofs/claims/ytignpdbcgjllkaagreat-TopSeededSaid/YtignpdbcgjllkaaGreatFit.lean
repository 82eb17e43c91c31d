/-
 Arguments: cells that fit a type are a typed value.
-/
import Derived.Test.YtignpdbcgjllkaaGreatWe
import Derived.Test.YtignpdbcgjllkaaGreatOpen
namespace Go.Proofs.YtignpdbcgjllkaaGreat
open Go Go.Abs Go.Kp
set_option maxRecDepth 100000
set_option maxHeartbeats 8000000
set_option linter.all false
theorem fit3 {F : Nat} (hF : 1 ≤ F) {ds : List D} (h : Fit Tryz.prog F 3 ds) : ∃ x : Int, ds = cellsOf (I x) ∧ (fits .i64 x) := by
 obtain ⟨F, rfl⟩ : ∃ G, F = G + 1 := ⟨F - 1, by omega⟩
 unfold Fit at h
 rw [Tryz.underlying3] at h
 obtain ⟨n, rfl, hn⟩ := h
 exact ⟨n, rfl, hn⟩
theorem fit4 {F : Nat} (hF : 1 ≤ F) {ds : List D} (h : Fit Tryz.prog F 4 ds) : ∃ x : Bool, ds = cellsOf (.bool x) ∧ (True) := by
 obtain ⟨F, rfl⟩ : ∃ G, F = G + 1 := ⟨F - 1, by omega⟩
 unfold Fit at h
 rw [Tryz.underlying4] at h
 obtain ⟨n, rfl⟩ := h
 exact ⟨n, rfl, trivial⟩
theorem fit108 {F : Nat} (hF : 2 ≤ F) {ds : List D} (h : Fit Tryz.prog F 108 ds) : ∃ x : Ref08Game, ds = cellsOf (.agg [I x.fA, I x.fB, I x.fPinsA, I x.fPinsB, .bool x.fOpen]) ∧ ((fits .i64 x.fA) ∧ (fits .i64 x.fB) ∧ (fits .i64 x.fPinsA) ∧ (fits .i64 x.fPinsB) ∧ (True)) := by
 obtain ⟨F, rfl⟩ : ∃ G, F = G + 1 := ⟨F - 1, by omega⟩
 unfold Fit at h
 rw [Tryz.underlying108] at h
 simp only [FitFs] at h
 obtain ⟨a0, b0, rfl, _, p0, h⟩ := h
 obtain ⟨y0, rfl, f0⟩ := fit3 (F := F) (by omega) p0
 obtain ⟨a1, b1, rfl, _, p1, h⟩ := h
 obtain ⟨y1, rfl, f1⟩ := fit3 (F := F) (by omega) p1
 obtain ⟨a2, b2, rfl, _, p2, h⟩ := h
 obtain ⟨y2, rfl, f2⟩ := fit3 (F := F) (by omega) p2
 obtain ⟨a3, b3, rfl, _, p3, h⟩ := h
 obtain ⟨y3, rfl, f3⟩ := fit3 (F := F) (by omega) p3
 obtain ⟨a4, b4, rfl, _, p4, h⟩ := h
 obtain ⟨y4, rfl, f4⟩ := fit4 (F := F) (by omega) p4
 subst h
 exact ⟨⟨y0, y1, y2, y3, y4⟩, rfl, f0, f1, f2, f3, f4⟩
theorem fit59 {F : Nat} (hF : 3 ≤ F) {ds : List D} (h : Fit Tryz.prog F 59 ds) : ∃ x : List Ref08Game, ds = cellsOf (.list 5 (List.map Ref08Game.enc x)) ∧ (∀ y0 ∈ x, (fits .i64 y0.fA) ∧ (fits .i64 y0.fB) ∧ (fits .i64 y0.fPinsA) ∧ (fits .i64 y0.fPinsB) ∧ (True)) := by
 obtain ⟨F, rfl⟩ : ∃ G, F = G + 1 := ⟨F - 1, by omega⟩
 unfold Fit at h
 rw [Tryz.underlying59] at h
 obtain ⟨xs, rfl, hx⟩ := h
 have e1 : isAggT Tryz.prog 108 = true := by unfold isAggT; rw [Tryz.underlying108]
 have e2 : Tryz.prog.cellsOf 108 = 5 := by kernel_rfl
 rw [e1] at hx
 rw [e2]
 obtain ⟨ys, rfl, hy⟩ : ∃ ys : List Ref08Game, xs = List.map Ref08Game.enc ys ∧ ∀ y0 ∈ ys, (fits .i64 y0.fA) ∧ (fits .i64 y0.fB) ∧ (fits .i64 y0.fPinsA) ∧ (fits .i64 y0.fPinsB) ∧ (True) := by
  clear e1 e2
  induction xs with
  | nil => exact ⟨[], rfl, fun _ h => by cases h⟩
  | cons x xs ih =>
   obtain ⟨es, rfl, _, he⟩ := hx x (by simp)
   obtain ⟨y, rfl, hy⟩ := fit108 (F := F) (by omega) he
   obtain ⟨ys, rfl, hys⟩ := ih fun z hz => hx z (by simp [hz])
   refine ⟨y :: ys, rfl, fun z hz => ?_⟩
   rcases List.mem_cons.1 hz with rfl | hz
   ·exact hy
   ·exact hys z hz
 exact ⟨ys, rfl, hy⟩
theorem fit61 {F : Nat} (hF : 4 ≤ F) {ds : List D} (h : Fit Tryz.prog F 61 ds) : ∃ x : Ref08League, ds = cellsOf (.agg [I x.fTeams, .list 5 (List.map Ref08Game.enc x.fGames)]) ∧ ((fits .i64 x.fTeams) ∧ (∀ y0 ∈ x.fGames, (fits .i64 y0.fA) ∧ (fits .i64 y0.fB) ∧ (fits .i64 y0.fPinsA) ∧ (fits .i64 y0.fPinsB) ∧ (True))) := by
 obtain ⟨F, rfl⟩ : ∃ G, F = G + 1 := ⟨F - 1, by omega⟩
 unfold Fit at h
 rw [Tryz.underlying61] at h
 simp only [FitFs] at h
 obtain ⟨a0, b0, rfl, _, p0, h⟩ := h
 obtain ⟨y0, rfl, f0⟩ := fit3 (F := F) (by omega) p0
 obtain ⟨a1, b1, rfl, _, p1, h⟩ := h
 obtain ⟨y1, rfl, f1⟩ := fit59 (F := F) (by omega) p1
 subst h
 exact ⟨⟨y0, y1⟩, rfl, f0, f1⟩
theorem fit5 {F : Nat} (hF : 1 ≤ F) {ds : List D} (h : Fit Tryz.prog F 5 ds) : ∃ x : Int, ds = cellsOf (.int .u8 x) ∧ (fits .u8 x) := by
 obtain ⟨F, rfl⟩ : ∃ G, F = G + 1 := ⟨F - 1, by omega⟩
 unfold Fit at h
 rw [Tryz.underlying5] at h
 obtain ⟨n, rfl, hn⟩ := h
 exact ⟨n, rfl, hn⟩
theorem fit62 {F : Nat} (hF : 2 ≤ F) {ds : List D} (h : Fit Tryz.prog F 62 ds) : ∃ x : List Int, ds = cellsOf (.list 1 (List.map (fun x => .int .u8 x) x)) ∧ (∀ y0 ∈ x, fits .u8 y0) := by
 obtain ⟨F, rfl⟩ : ∃ G, F = G + 1 := ⟨F - 1, by omega⟩
 unfold Fit at h
 rw [Tryz.underlying62] at h
 obtain ⟨xs, rfl, hx⟩ := h
 have e1 : isAggT Tryz.prog 5 = false := by unfold isAggT; rw [Tryz.underlying5]
 have e2 : Tryz.prog.cellsOf 5 = 1 := by kernel_rfl
 rw [e1] at hx
 rw [e2]
 obtain ⟨ys, rfl, hy⟩ : ∃ ys : List Int, xs = List.map (fun x => .int .u8 x) ys ∧ ∀ y0 ∈ ys, fits .u8 y0 := by
  clear e1 e2
  induction xs with
  | nil => exact ⟨[], rfl, fun _ h => by cases h⟩
  | cons x xs ih =>
   obtain ⟨es, rfl, _, he⟩ := hx x (by simp)
   obtain ⟨y, rfl, hy⟩ := fit5 (F := F) (by omega) he
   obtain ⟨ys, rfl, hys⟩ := ih fun z hz => hx z (by simp [hz])
   refine ⟨y :: ys, rfl, fun z hz => ?_⟩
   rcases List.mem_cons.1 hz with rfl | hz
   ·exact hy
   ·exact hys z hz
 exact ⟨ys, rfl, hy⟩
end Go.Proofs.YtignpdbcgjllkaaGreat
