/-
  Refused books, named.
-/
import Derived.Test.YtmencjafjcmbaaaPE
import Derived.Test.YtmencjafjcmbaaaDRateNames
set_option linter.all false
namespace Go.Proofs.Ytmencjafjcmbaaa
open Go.Kp

def sb4 : Ref07Book := ⟨⟨200, 80, 60, 6, 10⟩, [150, 170], [⟨1, 0, 1, ⟨140, 160, 150⟩⟩, ⟨2, 0, 2, ⟨180, 130, 141⟩⟩, ⟨3, 1, 1, ⟨200, 190, 180⟩⟩, ⟨4, 0, 2, ⟨180, 130, 171⟩⟩], [4]⟩
def sb6 : Ref07Book := ⟨⟨200, 80, 60, 6, 10⟩, [150, 170], [⟨1, 0, 1, ⟨140, 160, 150⟩⟩, ⟨1, 0, 2, ⟨180, 130, 141⟩⟩, ⟨3, 1, 1, ⟨200, 190, 180⟩⟩, ⟨4, 0, 2, ⟨180, 130, 171⟩⟩], []⟩
def sb101 : Ref07Book := ⟨⟨200, 101, 60, 6, 10⟩, [150, 170], [⟨1, 0, 1, ⟨140, 160, 150⟩⟩, ⟨2, 0, 2, ⟨180, 130, 141⟩⟩, ⟨3, 1, 1, ⟨200, 190, 180⟩⟩, ⟨4, 0, 2, ⟨180, 130, 171⟩⟩], []⟩
def sb301 : Ref07Book := ⟨⟨200, 80, 60, 6, 10⟩, [150, 170], [⟨1, 0, 1, ⟨140, 160, 301⟩⟩, ⟨2, 0, 2, ⟨180, 130, 141⟩⟩, ⟨3, 1, 1, ⟨200, 190, 180⟩⟩, ⟨4, 0, 2, ⟨180, 130, 171⟩⟩], []⟩
def sb0 : Ref07Book := ⟨⟨0, 0, 0, 0, 0⟩, [], [], []⟩
def sb9 : Ref07Book := ⟨⟨0, 0, 0, 0, 0⟩, List.replicate 9 0, [], []⟩

section
variable {N : Nat} (hN : 4000 ≤ N)
include hN
theorem names_true : law07RateNames N = some true := by
  unfold law07RateNames law07Season
  simp only [Option.bind_some]
  have i1 : idx ([⟨1, 0, 1, ⟨140, 160, 150⟩⟩, ⟨2, 0, 2, ⟨180, 130, 141⟩⟩, ⟨3, 1, 1, ⟨200, 190, 180⟩⟩, ⟨4, 0, 2, ⟨180, 130, 171⟩⟩] : List RateSheet) 1 = some ⟨2, 0, 2, ⟨180, 130, 141⟩⟩ := rfl
  have i0 : idx ([⟨1, 0, 1, ⟨140, 160, 150⟩⟩, ⟨2, 0, 2, ⟨180, 130, 141⟩⟩, ⟨3, 1, 1, ⟨200, 190, 180⟩⟩, ⟨4, 0, 2, ⟨180, 130, 171⟩⟩] : List RateSheet) 0 = some ⟨1, 0, 1, ⟨140, 160, 150⟩⟩ := rfl
  have k5 : mkl N 5 (0 : Int) = some [0, 0, 0, 0, 0] := by unfold mkl; rw [if_pos (by omega)]; rfl
  have k9 : mkl N 9 (0 : Int) = some (List.replicate 9 0) := by unfold mkl; rw [if_pos (by omega)]; rfl
  simp only [i0, i1, k5, k9, Option.bind_some]
  have e : (⟨⟨200, 80, 60, 6, 10⟩, [150, 170], [⟨1, 0, 1, ⟨140, 160, 150⟩⟩, ⟨2, 0, 2, ⟨180, 130, 141⟩⟩, ⟨3, 1, 1, ⟨200, 190, 180⟩⟩, ⟨4, 0, 2, ⟨180, 130, 171⟩⟩], []⟩ : RateBook) = cb sb := rfl
  have e4 : (⟨⟨200, 80, 60, 6, 10⟩, [150, 170], [⟨1, 0, 1, ⟨140, 160, 150⟩⟩, ⟨2, 0, 2, ⟨180, 130, 141⟩⟩, ⟨3, 1, 1, ⟨200, 190, 180⟩⟩, ⟨4, 0, 2, ⟨180, 130, 171⟩⟩], [4]⟩ : RateBook) = cb sb4 := rfl
  have e6 : (⟨⟨200, 80, 60, 6, 10⟩, [150, 170], List.set [⟨1, 0, 1, ⟨140, 160, 150⟩⟩, ⟨2, 0, 2, ⟨180, 130, 141⟩⟩, ⟨3, 1, 1, ⟨200, 190, 180⟩⟩, ⟨4, 0, 2, ⟨180, 130, 171⟩⟩] (Int.toNat 1) ⟨1, 0, 2, ⟨180, 130, 141⟩⟩, []⟩ : RateBook) = cb sb6 := rfl
  have e101 : (⟨⟨200, 101, 60, 6, 10⟩, [150, 170], [⟨1, 0, 1, ⟨140, 160, 150⟩⟩, ⟨2, 0, 2, ⟨180, 130, 141⟩⟩, ⟨3, 1, 1, ⟨200, 190, 180⟩⟩, ⟨4, 0, 2, ⟨180, 130, 171⟩⟩], []⟩ : RateBook) = cb sb101 := rfl
  have e301 : (⟨⟨200, 80, 60, 6, 10⟩, [150, 170], List.set [⟨1, 0, 1, ⟨140, 160, 150⟩⟩, ⟨2, 0, 2, ⟨180, 130, 141⟩⟩, ⟨3, 1, 1, ⟨200, 190, 180⟩⟩, ⟨4, 0, 2, ⟨180, 130, 171⟩⟩] (Int.toNat 0) ⟨1, 0, 1, ⟨140, 160, 301⟩⟩, []⟩ : RateBook) = cb sb301 := rfl
  have e0 : (⟨⟨0, 0, 0, 0, 0⟩, [], [], []⟩ : RateBook) = cb sb0 := rfl
  have e9 : (⟨⟨0, 0, 0, 0, 0⟩, List.replicate 9 0, [], []⟩ : RateBook) = cb sb9 := rfl
  have hb : sb.fBowlers.length ≤ 1000 := by decide
  have hb4 : sb4.fBowlers.length ≤ 1000 := by decide
  have hc : cnt sb4 = [1, 2, 3] := by decide +kernel
  have f4 : flt sb4 = 0 := by decide
  rw [e4, average_eq hN sb4 hb4, counting_eq hN, if_pos f4, hc]
  have a0 : ask sb 0 2 = 0 := by decide
  have v0 : avg sb 0 2 (0, 0) = 150 := by decide
  have a1 : ask sb 1 3 = 0 := by decide
  have v1 : avg sb 1 3 (0, 0) = 170 := by decide
  have v2 : hcp sb 1 3 = 24 := by decide
  have a4 : ask sb4 0 3 = 0 := by decide
  have v4 : avg sb4 0 3 (0, 0) = 150 := by decide
  have a5 : ask sb 2 3 = 2 := by decide
  have a6 : ask sb 0 31 = 2 := by decide
  have m1 : mer sb 2 [0, 1] [1] = 1 := by decide
  have m2 : mer sb 2 [0] [] = 1 := by decide
  have m3 : mer sb 0 [] [] = 2 := by decide
  have m4 : mer sb 2 [0, 0, 0, 0, 0] [1] = 3 := by decide
  have w1 : wf sb 1 3 [1] = 8 := by decide
  have w2 : wf sb 1 3 [3] = 1 := by decide
  have w3 : wf sb 1 3 [2, 1] = 1 := by decide
  have c6 : flt sb6 = 6 := by decide
  have c101 : flt sb101 = 1 := by decide
  have c301 : flt sb301 = 1 := by decide
  have c0 : flt sb0 = 1 := by decide
  have c9 : flt sb9 = 3 := by decide
  simp only [e, average_eq hN sb hb, handicap_eq hN sb hb, match_eq hN sb hb, span_eq hN sb hb 1 3 [1] (by simp), span_eq hN sb hb 1 3 [3] (by simp), span_eq hN sb hb 1 3 [2, 1] (by simp), a0, v0, a1, v1, v2, a4, v4, a5, a6, m1, m2, m3, m4, w1, w2, w3, if_true, Option.bind_some]
  rw [ints_eq hN _ _ (by simp), e6, e101, e301, e0, e9, check_eq hN, check_eq hN, check_eq hN, check_eq hN, check_eq hN, c6, c101, c301, c0, c9, wakes_ok hN]
  rfl
end
end Go.Proofs.Ytmencjafjcmbaaa
