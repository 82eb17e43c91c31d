/-
  The book of one bowler with three games of a week: its average, its handicap.
-/
import Derived.Test.YthbifolpofillaaPA
set_option linter.all false
namespace Go.Proofs.Ythbifolpofillaa
open Go.Kp

def hs (g : Ar3 Int) : RateBook := ⟨⟨200, 80, 200, 3, 10⟩, [100], [⟨1, 0, 1, g⟩], []⟩

theorem w64_c1 : w64 1 = 1 := by decide
theorem w64_c2 : w64 2 = 2 := by decide
theorem w64_c3 : w64 3 = 3 := by decide
theorem w64_c0 : w64 0 = 0 := by decide

theorem all3 (n : Nat) (a b c : Int) (h : 0 ≤ a ∧ a ≤ 300) (h1 : 0 ≤ b ∧ b ≤ 300) (h2 : 0 ≤ c ∧ c ≤ 300) : rateAll (n + 20) [a, b, c] = some true := by
  obtain ⟨ha, hb⟩ := h; obtain ⟨hc, hd⟩ := h1; obtain ⟨he, hf⟩ := h2
  simp [rateAll, slicesContainsFunc, slicesIndexFunc, loopN, slicesIndexFunc_b2, slicesIndexFunc_k1, rateAll1, rateCount, rateWithin, idx, w64_c1, w64_c2, w64_c3, ha, hb, hc, hd, he, hf]

theorem sum3 (n : Nat) (a b c : Int) (h : 0 ≤ a ∧ a ≤ 300) (h1 : 0 ≤ b ∧ b ≤ 300) (h2 : 0 ≤ c ∧ c ≤ 300) : rateSum (n + 20) [a, b, c] = some (a + b + c) := by
  have e0 : w64 a = a := w64_id (by omega) (by omega)
  have e1 : w64 (a + b) = a + b := w64_id (by omega) (by omega)
  have e2 : w64 (a + b + c) = a + b + c := w64_id (by omega) (by omega)
  simp [rateSum, loopN, rateSum_b1, idx, w64_c1, w64_c2, w64_c3, e0, e1, e2]
theorem sum2 (n : Nat) (a b : Int) (h : 0 ≤ a ∧ a ≤ 900) (h1 : 0 ≤ b ∧ b ≤ 900) : rateSum (n + 20) [a, b] = some (a + b) := by
  have e0 : w64 a = a := w64_id (by omega) (by omega)
  have e1 : w64 (a + b) = a + b := w64_id (by omega) (by omega)
  simp [rateSum, loopN, rateSum_b1, idx, w64_c1, w64_c2, w64_c3, e0, e1]
theorem sum0 (n : Nat) : rateSum (n + 20) [] = some 0 := by
  simp [rateSum, loopN, rateSum_b1]

def okg (g : Ar3 Int) : Prop := (0 ≤ g.a0 ∧ g.a0 ≤ 300) ∧ (0 ≤ g.a1 ∧ g.a1 ≤ 300) ∧ (0 ≤ g.a2 ∧ g.a2 ≤ 300)

theorem check_hs (n : Nat) (g : Ar3 Int) (h : okg g) : rateCheckBook (n + 20) (hs g) = some 0 := by
  have h3 := all3 n _ _ _ h.1 h.2.1 h.2.2
  have b1 : rateAll (n + 20) [100] = some true := by rfl
  have b2 : rateLawValid (n + 20) ⟨200, 80, 200, 3, 10⟩ = some true := by rfl
  have b3 : rateAllXX (n + 20) [] = some true := by rfl
  have b4 : rateRising (n + 20) [] = some true := by rfl
  have b5 : rateAllX (n + 20) [⟨1, 0, 1, g⟩] (hs g) = some true := by
    simp [rateAllX, slicesContainsFuncX, slicesIndexFuncX, loopN, slicesIndexFuncX_b2, slicesIndexFuncX_k1, rateAll1X, rateBookSheet, rateNumber, rateBookBowler, rateWeek, rateWithin, idx, hs, h3, w64_c1, w64_c0]
  unfold rateCheckBook
  simp [hs] at b5 ⊢
  rw [b1, b2, b3, b4, b5]
  simp [loopN, rateCheckBook_b4, rateCheckBook_b3, rateCheckBook_k1, rateCheckBook_k2, idx, slc, w64_c1]

theorem read_hs (n : Nat) (g : Ar3 Int) (h : okg g) : rateBookRead (n + 20) (hs g) = some (.inr (0, 200, 80, 200, 3, 10, [100], [⟨1, 0, 1, g⟩], [], [(⟨0, 1⟩, ⟨1, 0, 1, g⟩)])) := by
  unfold rateBookRead
  rw [check_hs n g h]
  simp [hs, loopN, rateBookRead_b1, idx, mgt, mget, mput, slicesContains, slicesIndex, slicesIndex_b2, slicesIndex_k1, w64_c1]

theorem asked_hs (n : Nat) (g : Ar3 Int) (h : okg g) : rateBookAsked (n + 20) (hs g) 0 2 = some (.inr (0, 200, 80, 200, 3, 10, [100], [⟨1, 0, 1, g⟩], [], [(⟨0, 1⟩, ⟨1, 0, 1, g⟩)])) := by
  unfold rateBookAsked
  rw [read_hs n g h]
  simp [hs, rateBookBowler, rateWeek, rateWithin, w64_c1, w64_c0]

theorem raverage_hs (n : Nat) (g : Ar3 Int) (h : okg g) (c1 c2 c3 c5 : Int) (c7 : List RateSheet) : rateReadAverage (n + 20) 0 2 [] c1 c2 c3 3 c5 [100] c7 [] [(⟨0, 1⟩, ⟨1, 0, 1, g⟩)] = some (Int.tdiv (g.a0 + g.a1 + g.a2) 3) := by
  have h3 := sum3 n _ _ _ h.1 h.2.1 h.2.2
  obtain ⟨q1, q2, q3⟩ := h
  have h2 := sum2 n 0 (g.a0 + g.a1 + g.a2) (by omega) (by omega)
  have e0 : w64 (Int.tdiv (g.a0 + g.a1 + g.a2) 3) = Int.tdiv (g.a0 + g.a1 + g.a2) 3 := by
    rw [Int.tdiv_eq_ediv_of_nonneg (by omega)]
    exact w64_id (by omega) (by omega)
  unfold rateReadAverage
  rw [sum0]
  simp [rateReadCounting, loopN, rateReadAverage_b1, mgt, mget, h3, h2, w64_c1, w64_c2, w64_c3, nz, e0]

theorem avg_hs (n : Nat) (g : Ar3 Int) (h : okg g) : rateAverage (n + 20) (hs g) 0 2 = some (Int.tdiv (g.a0 + g.a1 + g.a2) 3, 0) := by
  unfold rateAverage
  rw [asked_hs n g h]
  simp [raverage_hs n g h]

def hcp (s : Int) : Int := min (max 0 (Int.tdiv ((200 - Int.tdiv s 3) * 80) 100)) 200

theorem hand_hs (n : Nat) (g : Ar3 Int) (h : okg g) : rateHandicap (n + 20) (hs g) 0 2 = some (hcp (g.a0 + g.a1 + g.a2), 0) := by
  unfold rateHandicap
  rw [asked_hs n g h]
  obtain ⟨q1, q2, q3⟩ := id h
  have k : 0 ≤ Int.tdiv (g.a0 + g.a1 + g.a2) 3 ∧ Int.tdiv (g.a0 + g.a1 + g.a2) 3 ≤ 300 := by
    rw [Int.tdiv_eq_ediv_of_nonneg (by omega)]; omega
  simp [rateReadHandicap, raverage_hs n g h]
  unfold hcp
  generalize Int.tdiv (g.a0 + g.a1 + g.a2) 3 = q at k ⊢
  rw [w64_id (n := 200 - q) (by omega) (by omega), w64_id (n := (200 - q) * 80) (by omega) (by omega)]
  have k2 : -100 ≤ Int.tdiv ((200 - q) * 80) 100 ∧ Int.tdiv ((200 - q) * 80) 100 ≤ 200 := by
    have h1 := Int.tmod_add_mul_tdiv ((200 - q) * 80) 100
    have h2 := Int.tmod_lt_of_pos ((200 - q) * 80) (b := 100) (by decide)
    have h3 := Int.lt_tmod_of_pos ((200 - q) * 80) (b := 100) (by decide)
    omega
  rw [w64_id (by omega) (by omega)]
theorem tdiv_mono {a b : Int} (k : Int) (hk : 0 < k) (h : a ≤ b) : Int.tdiv a k ≤ Int.tdiv b k := Int.tdiv_le_tdiv hk h
theorem hcp_anti {a b : Int} (h : a ≤ b) : hcp b ≤ hcp a := by
  unfold hcp
  have h1 := tdiv_mono 3 (by decide) h
  have h2 := tdiv_mono (a := (200 - Int.tdiv b 3) * 80) (b := (200 - Int.tdiv a 3) * 80) 100 (by decide) (by omega)
  omega
end Go.Proofs.Ythbifolpofillaa
