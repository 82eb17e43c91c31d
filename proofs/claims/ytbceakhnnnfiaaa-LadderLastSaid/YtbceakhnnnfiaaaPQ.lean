/-
  Knock-outs with the same results, in another order; with others, but the same winners.
-/
import Derived.Test.YtbceakhnnnfiaaaPN
set_option linter.all false
namespace Go.Proofs.Ytbceakhnnnfiaaa
open Go.Kp
structure Kin (c x : Ref09Cup) : Prop where
  t : decide (x.fForm = 1) = decide (c.fForm = 1)
  p : x.fPlayers = c.fPlayers
  won : ∀ m, won x m = won c m
theorem Kin.T {c x : Ref09Cup} (h : Kin c x) : T x = T c := by unfold Go.Proofs.Ytbceakhnnnfiaaa.T; rw [h.t, h.p]
theorem Kin.known {c x : Ref09Cup} (h : Kin c x) (s : Ref09Side) : known x s = known c s := by unfold Go.Proofs.Ytbceakhnnnfiaaa.known; rw [h.won]
theorem Kin.ply {c x : Ref09Cup} (h : Kin c x) (n : Nat) : ply x n = ply c n := by unfold Go.Proofs.Ytbceakhnnnfiaaa.ply; rw [h.T, h.known, h.known]
theorem Kin.lst {c x : Ref09Cup} (h : Kin c x) : lst x = lst c := by unfold Go.Proofs.Ytbceakhnnnfiaaa.lst; rw [h.T]
theorem Kin.ca {c x : Ref09Cup} (h : Kin c x) (n w) : ca x n w = ca c n w := by unfold Go.Proofs.Ytbceakhnnnfiaaa.ca; rw [h.T]
theorem Kin.cb {c x : Ref09Cup} (h : Kin c x) (n w) : cb x n w = cb c n w := by unfold Go.Proofs.Ytbceakhnnnfiaaa.cb; rw [h.T]
theorem Kin.sett {c x : Ref09Cup} (h : Kin c x) (hp : ∀ n, prot x n = prot c n) : sett x = sett c := by
  funext n a b; unfold Go.Proofs.Ytbceakhnnnfiaaa.sett; rw [h.ply, hp, h.won]
theorem Kin.frm {c x : Ref09Cup} (h : Kin c x) : frm x = frm c := by funext m s; unfold Go.Proofs.Ytbceakhnnnfiaaa.frm; rw [h.p]
theorem Kin.bmap {c x : Ref09Cup} (h : Kin c x) (hp : ∀ n, prot x n = prot c n) : bmap x = bmap c := by
  have e : brow x = brow c := by
    funext m n; unfold brow stp
    rw [h.T, h.frm, h.sett hp]
  unfold Go.Proofs.Ytbceakhnnnfiaaa.bmap; rw [e, h.T]
theorem Kin.mays {c x : Ref09Cup} (h : Kin c x) (hp : ∀ n, prot x n = prot c n) : mays x = mays c := by
  unfold Go.Proofs.Ytbceakhnnnfiaaa.mays mayl; rw [h.bmap hp, h.lst, h.p]
theorem Kin.hangs {c x : Ref09Cup} (h : Kin c x) (hp : ∀ n, prot x n = prot c n) : hangs x = hangs c := by
  unfold Go.Proofs.Ytbceakhnnnfiaaa.hangs hangl sure; rw [h.bmap hp, h.T, h.frm]; simp only [h.won, hp]
theorem Kin.nexts {c x : Ref09Cup} (h : Kin c x) (hg : ∀ n, gm x n = gm c n) : nexts x = nexts c := by
  unfold Go.Proofs.Ytbceakhnnnfiaaa.nexts nextl opn; simp only [h.T, h.known, h.won, hg]
theorem dup_iff : ∀ {l pre : List Ref09Result}, dup pre l = false ↔ (∀ r ∈ l, ∀ y ∈ pre, r.fMatch ≠ y.fMatch) ∧ l.Pairwise (fun a b => a.fMatch ≠ b.fMatch)
  | [], pre => by simp [dup]
  | x :: l, pre => by
    simp only [dup, Bool.or_eq_false_iff, List.any_eq_false, decide_eq_true_eq, dup_iff (l := l), List.pairwise_cons, List.mem_append, List.mem_singleton, List.mem_cons]
    constructor
    · rintro ⟨h1, h2, h3⟩
      refine ⟨fun r hr y hy => ?_, fun r hr e => ?_, h3⟩
      · rcases hr with rfl | hr
        · exact h1 y hy
        · exact h2 r hr y (.inl hy)
      · exact h2 r hr x (.inr (.inl rfl)) e.symm
    · rintro ⟨h1, h2, h3⟩
      refine ⟨fun y hy => h1 x (.inl rfl) y hy, fun r hr y hy => ?_, h3⟩
      rcases hy with hy | rfl | hy
      · exact h1 r (.inr hr) y hy
      · exact fun e => h2 r hr e.symm
      · cases hy
end Go.Proofs.Ytbceakhnnnfiaaa
