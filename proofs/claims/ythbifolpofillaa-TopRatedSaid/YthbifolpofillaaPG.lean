/-
  The document's functions over a sheet that is a game's.
-/
import Derived.Test.YthbifolpofillaaPF
set_option linter.all false
namespace Go.Proofs.Ythbifolpofillaa
open Go.Kp

theorem scan_bd (k : Int) : ∀ (xs : List Ref01Ball) (i : Nat) (a : Int × Int × Int), (∀ x ∈ xs, 0 ≤ x.fCount ∧ x.fCount ≤ 10) →
    a.1 ≤ (scan k i a xs).1 ∧ (scan k i a xs).1 ≤ a.1 + 10 * xs.length ∧ a.2.1 ≤ (scan k i a xs).2.1 ∧ (scan k i a xs).2.1 ≤ a.2.1 + xs.length
  | [], i, a, _ => by simp [scan]
  | x :: xs, i, a, h => by
    have h1 := h x (by simp)
    have h2 := scan_bd k xs (i + 1) (upd k i a x) fun y hy => h y (by simp [hy])
    simp only [scan, List.length_cons]
    unfold upd at h2 ⊢
    split at h2
    · rename_i e; rw [if_pos e]; simp only at h2; omega
    · rename_i e; rw [if_neg e]; omega

theorem tr_bd {l : Ref01Law} {a : A} (hA : AInv l a) : ∀ x ∈ a.tr, 0 ≤ x.fCount ∧ x.fCount ≤ 10 := by
  intro x hx
  have : x.fCount ∈ a.cs := by rw [← hA.trc]; exact List.mem_map_of_mem hx
  exact hA.bd _ this

theorem tr_idx {l : Ref01Law} {a : A} (hA : AInv l a) {i : Nat} (hi : i < a.cs.length) : ∃ x, a.tr[i]? = some x ∧ x.fCount = a.cs[i] := by
  have hl : i < a.tr.length := by rw [hA.trl]; exact hi
  refine ⟨a.tr[i], by simp [hl], ?_⟩
  have : (a.tr.map (·.fCount))[i]? = a.cs[i]? := by rw [hA.trc]
  simp [hl, hi] at this
  exact this

theorem more_eq (l : Ref01Law) (hV : V l) (k : Nat) (own balls : Int) :
    (Option.bind (Option.bind (if decide ((k : Int) < w64 (l.fFrames - 1)) = true then if decide (own = l.fPins) = true then some (decide (balls = 1)) else some false else some false) fun v1128 => if v1128 = true then some (2 : Int) else some 0) fun v1127 =>
      Option.bind (Option.bind (if decide ((k : Int) < w64 (l.fFrames - 1)) = true then if decide (own = l.fPins) = true then some (decide (balls = 2)) else some false else some false) fun v1131 => if v1131 = true then some (1 : Int) else some v1127) fun v1130 => some v1130) = some (more l k own balls) := by
  have := hV.f1; have := hV.f2
  rw [w64_id (by omega) (by omega)]
  unfold more
  by_cases h1 : (k : Int) < l.fFrames - 1 <;> by_cases h2 : own = l.fPins <;> by_cases h3 : balls = 1 <;> by_cases h4 : balls = 2 <;> simp [h1, h2, h3, h4] <;> omega

theorem split_sum {cs : List Int} {x y z : Nat} (h1 : x ≤ y) (h2 : y ≤ z) (h3 : z ≤ cs.length) : sm ((cs.take y).drop x) + sm ((cs.take z).drop y) = sm ((cs.take z).drop x) := by
  rw [← sm_app]
  congr 1
  have e : cs.take z = cs.take y ++ (cs.take z).drop y := by
    have : cs.take y = (cs.take z).take y := by rw [List.take_take, Nat.min_eq_left h2]
    rw [this, List.take_append_drop]
  conv => rhs; rw [e]
  rw [List.drop_append_of_le_length (by simp; omega)]

section
variable {l : Ref01Law} (hV : V l) {sheet : List Int} (hk : Ok l (s0 l) sheet) (hn : sheet.length ≤ 90)
include hV hk hn

theorem play_acc : ref01Play 2097152 l sheet = some ((acc l sheet).s.stand, (acc l sheet).tr) := by
  rw [play_ok hV hn hk, acc_s, acc_tr]

end
end Go.Proofs.Ythbifolpofillaa
