/-
  Arguments: cells that fit a type are a typed value.
-/
import Derived.Test.YtbceakhnnnfiaaaWe
import Derived.Test.YtbceakhnnnfiaaaOpen
namespace Go.Proofs.Ytbceakhnnnfiaaa
open Go Go.Abs Go.Kp
set_option maxRecDepth 100000
set_option maxHeartbeats 8000000
set_option linter.all false
theorem fit5 {F : Nat} (hF : 1 ≤ F) {ds : List D} (h : Fit Try.prog F 5 ds) : ∃ x : Int, ds = cellsOf (.int .u8 x) ∧ (fits .u8 x) := by
  obtain ⟨F, rfl⟩ : ∃ G, F = G + 1 := ⟨F - 1, by omega⟩
  unfold Fit at h
  rw [Try.underlying5] at h
  obtain ⟨n, rfl, hn⟩ := h
  exact ⟨n, rfl, hn⟩
theorem fit3 {F : Nat} (hF : 1 ≤ F) {ds : List D} (h : Fit Try.prog F 3 ds) : ∃ x : Int, ds = cellsOf (I x) ∧ (fits .i64 x) := by
  obtain ⟨F, rfl⟩ : ∃ G, F = G + 1 := ⟨F - 1, by omega⟩
  unfold Fit at h
  rw [Try.underlying3] at h
  obtain ⟨n, rfl, hn⟩ := h
  exact ⟨n, rfl, hn⟩
theorem fit27 {F : Nat} (hF : 2 ≤ F) {ds : List D} (h : Fit Try.prog F 27 ds) : ∃ x : List Int, ds = cellsOf (.list 1 (List.map I x)) ∧ (∀ y0 ∈ x, fits .i64 y0) := by
  obtain ⟨F, rfl⟩ : ∃ G, F = G + 1 := ⟨F - 1, by omega⟩
  unfold Fit at h
  rw [Try.underlying27] at h
  obtain ⟨xs, rfl, hx⟩ := h
  have e1 : isAggT Try.prog 3 = false := by unfold isAggT; rw [Try.underlying3]
  have e2 : Try.prog.cellsOf 3 = 1 := by kernel_rfl
  rw [e1] at hx
  rw [e2]
  obtain ⟨ys, rfl, hy⟩ : ∃ ys : List Int, xs = List.map I ys ∧ ∀ y0 ∈ ys, fits .i64 y0 := by
    clear e1 e2
    induction xs with
    | nil => exact ⟨[], rfl, fun _ h => by cases h⟩
    | cons x xs ih =>
      obtain ⟨es, rfl, _, he⟩ := hx x (by simp)
      obtain ⟨y, rfl, hy⟩ := fit3 (F := F) (by omega) he
      obtain ⟨ys, rfl, hys⟩ := ih fun z hz => hx z (by simp [hz])
      refine ⟨y :: ys, rfl, fun z hz => ?_⟩
      rcases List.mem_cons.1 hz with rfl | hz
      · exact hy
      · exact hys z hz
  exact ⟨ys, rfl, hy⟩
theorem fit4 {F : Nat} (hF : 1 ≤ F) {ds : List D} (h : Fit Try.prog F 4 ds) : ∃ x : Bool, ds = cellsOf (.bool x) ∧ (True) := by
  obtain ⟨F, rfl⟩ : ∃ G, F = G + 1 := ⟨F - 1, by omega⟩
  unfold Fit at h
  rw [Try.underlying4] at h
  obtain ⟨n, rfl⟩ := h
  exact ⟨n, rfl, trivial⟩
theorem fit45 {F : Nat} (hF : 3 ≤ F) {ds : List D} (h : Fit Try.prog F 45 ds) : ∃ x : Ref09Result, ds = cellsOf (.agg [I x.fMatch, .list 1 (List.map I x.fGames), .bool x.fProtested]) ∧ ((fits .i64 x.fMatch) ∧ (∀ y0 ∈ x.fGames, fits .i64 y0) ∧ (True)) := by
  obtain ⟨F, rfl⟩ : ∃ G, F = G + 1 := ⟨F - 1, by omega⟩
  unfold Fit at h
  rw [Try.underlying45] at h
  simp only [FitFs] at h
  obtain ⟨a0, b0, rfl, _, p0, h⟩ := h
  obtain ⟨y0, rfl, f0⟩ := fit3 (F := F) (by omega) p0
  obtain ⟨a1, b1, rfl, _, p1, h⟩ := h
  obtain ⟨y1, rfl, f1⟩ := fit27 (F := F) (by omega) p1
  obtain ⟨a2, b2, rfl, _, p2, h⟩ := h
  obtain ⟨y2, rfl, f2⟩ := fit4 (F := F) (by omega) p2
  subst h
  exact ⟨⟨y0, y1, y2⟩, rfl, f0, f1, f2⟩
theorem fit22 {F : Nat} (hF : 4 ≤ F) {ds : List D} (h : Fit Try.prog F 22 ds) : ∃ x : List Ref09Result, ds = cellsOf (.list 3 (List.map Ref09Result.enc x)) ∧ (∀ y0 ∈ x, (fits .i64 y0.fMatch) ∧ (∀ y1 ∈ y0.fGames, fits .i64 y1) ∧ (True)) := by
  obtain ⟨F, rfl⟩ : ∃ G, F = G + 1 := ⟨F - 1, by omega⟩
  unfold Fit at h
  rw [Try.underlying22] at h
  obtain ⟨xs, rfl, hx⟩ := h
  have e1 : isAggT Try.prog 45 = true := by unfold isAggT; rw [Try.underlying45]
  have e2 : Try.prog.cellsOf 45 = 3 := by kernel_rfl
  rw [e1] at hx
  rw [e2]
  obtain ⟨ys, rfl, hy⟩ : ∃ ys : List Ref09Result, xs = List.map Ref09Result.enc ys ∧ ∀ y0 ∈ ys, (fits .i64 y0.fMatch) ∧ (∀ y1 ∈ y0.fGames, fits .i64 y1) ∧ (True) := by
    clear e1 e2
    induction xs with
    | nil => exact ⟨[], rfl, fun _ h => by cases h⟩
    | cons x xs ih =>
      obtain ⟨es, rfl, _, he⟩ := hx x (by simp)
      obtain ⟨y, rfl, hy⟩ := fit45 (F := F) (by omega) he
      obtain ⟨ys, rfl, hys⟩ := ih fun z hz => hx z (by simp [hz])
      refine ⟨y :: ys, rfl, fun z hz => ?_⟩
      rcases List.mem_cons.1 hz with rfl | hz
      · exact hy
      · exact hys z hz
  exact ⟨ys, rfl, hy⟩
theorem fit24 {F : Nat} (hF : 5 ≤ F) {ds : List D} (h : Fit Try.prog F 24 ds) : ∃ x : Ref09Cup, ds = cellsOf (.agg [.int .u8 x.fForm, I x.fPlayers, I x.fGames, .list 3 (List.map Ref09Result.enc x.fResults)]) ∧ ((fits .u8 x.fForm) ∧ (fits .i64 x.fPlayers) ∧ (fits .i64 x.fGames) ∧ (∀ y0 ∈ x.fResults, (fits .i64 y0.fMatch) ∧ (∀ y1 ∈ y0.fGames, fits .i64 y1) ∧ (True))) := by
  obtain ⟨F, rfl⟩ : ∃ G, F = G + 1 := ⟨F - 1, by omega⟩
  unfold Fit at h
  rw [Try.underlying24] at h
  simp only [FitFs] at h
  obtain ⟨a0, b0, rfl, _, p0, h⟩ := h
  obtain ⟨y0, rfl, f0⟩ := fit5 (F := F) (by omega) p0
  obtain ⟨a1, b1, rfl, _, p1, h⟩ := h
  obtain ⟨y1, rfl, f1⟩ := fit3 (F := F) (by omega) p1
  obtain ⟨a2, b2, rfl, _, p2, h⟩ := h
  obtain ⟨y2, rfl, f2⟩ := fit3 (F := F) (by omega) p2
  obtain ⟨a3, b3, rfl, _, p3, h⟩ := h
  obtain ⟨y3, rfl, f3⟩ := fit22 (F := F) (by omega) p3
  subst h
  exact ⟨⟨y0, y1, y2, y3⟩, rfl, f0, f1, f2, f3⟩
theorem fit79 {F : Nat} (hF : 2 ≤ F) {ds : List D} (h : Fit Try.prog F 79 ds) : ∃ x : List Int, ds = cellsOf (.list 1 (List.map (fun x => .int .u8 x) x)) ∧ (∀ y0 ∈ x, fits .u8 y0) := by
  obtain ⟨F, rfl⟩ : ∃ G, F = G + 1 := ⟨F - 1, by omega⟩
  unfold Fit at h
  rw [Try.underlying79] at h
  obtain ⟨xs, rfl, hx⟩ := h
  have e1 : isAggT Try.prog 5 = false := by unfold isAggT; rw [Try.underlying5]
  have e2 : Try.prog.cellsOf 5 = 1 := by kernel_rfl
  rw [e1] at hx
  rw [e2]
  obtain ⟨ys, rfl, hy⟩ : ∃ ys : List Int, xs = List.map (fun x => .int .u8 x) ys ∧ ∀ y0 ∈ ys, fits .u8 y0 := by
    clear e1 e2
    induction xs with
    | nil => exact ⟨[], rfl, fun _ h => by cases h⟩
    | cons x xs ih =>
      obtain ⟨es, rfl, _, he⟩ := hx x (by simp)
      obtain ⟨y, rfl, hy⟩ := fit5 (F := F) (by omega) he
      obtain ⟨ys, rfl, hys⟩ := ih fun z hz => hx z (by simp [hz])
      refine ⟨y :: ys, rfl, fun z hz => ?_⟩
      rcases List.mem_cons.1 hz with rfl | hz
      · exact hy
      · exact hys z hz
  exact ⟨ys, rfl, hy⟩
end Go.Proofs.Ytbceakhnnnfiaaa
