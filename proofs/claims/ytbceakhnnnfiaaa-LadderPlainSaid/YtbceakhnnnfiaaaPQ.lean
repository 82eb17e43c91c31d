/-
  Knock-outs with the same results, in another order; with others, but the same winners.
-/
import Derived.Test.YtbceakhnnnfiaaaPN
set_option linter.all false
namespace Go.Proofs.Ytbceakhnnnfiaaa
open Go.Kp

/-- the same tree, and the same winners by the results -/
structure Kin (c x : Ref09Cup) : Prop where
  t : decide (x.fForm = 1) = decide (c.fForm = 1)
  p : x.fPlayers = c.fPlayers
  won : ∀ m, won x m = won c m
theorem Kin.T {c x : Ref09Cup} (h : Kin c x) : T x = T c := by unfold Go.Proofs.Ytbceakhnnnfiaaa.T; rw [h.t, h.p]
theorem Kin.known {c x : Ref09Cup} (h : Kin c x) (s : Ref09Side) : known x s = known c s := by unfold Go.Proofs.Ytbceakhnnnfiaaa.known; rw [h.won]
theorem Kin.ply {c x : Ref09Cup} (h : Kin c x) (n : Nat) : ply x n = ply c n := by unfold Go.Proofs.Ytbceakhnnnfiaaa.ply; rw [h.T, h.known, h.known]
theorem Kin.lst {c x : Ref09Cup} (h : Kin c x) : lst x = lst c := by unfold Go.Proofs.Ytbceakhnnnfiaaa.lst; rw [h.T]
theorem Kin.ca {c x : Ref09Cup} (h : Kin c x) (n w) : ca x n w = ca c n w := by unfold Go.Proofs.Ytbceakhnnnfiaaa.ca; rw [h.T]
theorem Kin.cb {c x : Ref09Cup} (h : Kin c x) (n w) : cb x n w = cb c n w := by unfold Go.Proofs.Ytbceakhnnnfiaaa.cb; rw [h.T]
/-- what is settled, too -/
theorem Kin.sett {c x : Ref09Cup} (h : Kin c x) (hp : ∀ n, prot x n = prot c n) : sett x = sett c := by
  funext n a b; unfold Go.Proofs.Ytbceakhnnnfiaaa.sett; rw [h.ply, hp, h.won]
theorem Kin.frm {c x : Ref09Cup} (h : Kin c x) : frm x = frm c := by funext m s; unfold Go.Proofs.Ytbceakhnnnfiaaa.frm; rw [h.p]
theorem Kin.bmap {c x : Ref09Cup} (h : Kin c x) (hp : ∀ n, prot x n = prot c n) : bmap x = bmap c := by
  have e : brow x = brow c := by
    funext m n; unfold brow stp
    rw [h.T, h.frm, h.sett hp]
  unfold Go.Proofs.Ytbceakhnnnfiaaa.bmap; rw [e, h.T]
theorem Kin.mays {c x : Ref09Cup} (h : Kin c x) (hp : ∀ n, prot x n = prot c n) : mays x = mays c := by
  unfold Go.Proofs.Ytbceakhnnnfiaaa.mays mayl; rw [h.bmap hp, h.lst, h.p]
theorem Kin.hangs {c x : Ref09Cup} (h : Kin c x) (hp : ∀ n, prot x n = prot c n) : hangs x = hangs c := by
  unfold Go.Proofs.Ytbceakhnnnfiaaa.hangs hangl sure; rw [h.bmap hp, h.T, h.frm]; simp only [h.won, hp]
theorem Kin.nexts {c x : Ref09Cup} (h : Kin c x) (hg : ∀ n, gm x n = gm c n) : nexts x = nexts c := by
  unfold Go.Proofs.Ytbceakhnnnfiaaa.nexts nextl opn; simp only [h.T, h.known, h.won, hg]

theorem dup_iff : ∀ {l pre : List Ref09Result}, dup pre l = false ↔ (∀ r ∈ l, ∀ y ∈ pre, r.fMatch ≠ y.fMatch) ∧ l.Pairwise (fun a b => a.fMatch ≠ b.fMatch)
  | [], pre => by simp [dup]
  | x :: l, pre => by
    simp only [dup, Bool.or_eq_false_iff, List.any_eq_false, decide_eq_true_eq, dup_iff (l := l), List.pairwise_cons, List.mem_append, List.mem_singleton, List.mem_cons]
    constructor
    · rintro ⟨h1, h2, h3⟩
      refine ⟨fun r hr y hy => ?_, fun r hr e => ?_, h3⟩
      · rcases hr with rfl | hr
        · exact h1 y hy
        · exact h2 r hr y (.inl hy)
      · exact h2 r hr x (.inr (.inl rfl)) e.symm
    · rintro ⟨h1, h2, h3⟩
      refine ⟨fun y hy => h1 x (.inl rfl) y hy, fun r hr y hy => ?_, h3⟩
      rcases hy with hy | rfl | hy
      · exact h1 r (.inr hr) y hy
      · exact fun e => h2 r hr e.symm
      · cases hy
theorem dup_perm {l m : List Ref09Result} (h : l.Perm m) (hd : dup [] l = false) : dup [] m = false := by
  rw [dup_iff] at hd ⊢
  refine ⟨fun r _ y hy => absurd hy (List.not_mem_nil), ?_⟩
  exact (h.pairwise_iff (fun {a b} hab e => hab e.symm)).1 hd.2
theorem res_perm {c x : Ref09Cup} (h : c.fResults.Perm x.fResults) (hd : dup [] c.fResults = false) (m : Int) : res x m = res c m := by
  have hd' := dup_perm h hd
  cases e : res c m with
  | none =>
    unfold res at e ⊢
    rw [List.find?_eq_none] at e ⊢
    exact fun r hr => e r (h.mem_iff.2 hr)
  | some r =>
    have hm := res_mem e
    have := res_of_mem hd' (h.mem_iff.1 hm.1)
    rwa [hm.2] at this
theorem all_perm {α : Type} {l m : List α} (h : l.Perm m) (p : α → Bool) : l.all p = m.all p := by
  rw [Bool.eq_iff_iff, List.all_eq_true, List.all_eq_true]
  exact ⟨fun q x hx => q x (h.mem_iff.2 hx), fun q x hx => q x (h.mem_iff.1 hx)⟩
theorem kin_res {c x : Ref09Cup} (hf : x.fForm = c.fForm) (hp : x.fPlayers = c.fPlayers) (hg : x.fGames = c.fGames) (h : ∀ m, res x m = res c m) : Kin c x :=
  ⟨by rw [hf], hp, fun m => by unfold won; rw [h, hg]⟩
theorem val_perm {c x : Ref09Cup} (hv : Val c) (hf : x.fForm = c.fForm) (hp : x.fPlayers = c.fPlayers) (hg : x.fGames = c.fGames) (h : c.fResults.Perm x.fResults) : Val x := by
  have hk := kin_res hf hp hg (res_perm h hv.dup)
  refine ⟨?_, ?_, ?_, dup_perm h hv.dup, ?_⟩
  · have := hv.lim; unfold lims at *; rw [← all_perm h, ← h.length_eq]; exact this
  · have := hv.form; unfold form at *; rw [hf, hp, hg]; exact this
  · have := hv.rght; unfold rght rghtR at *; rw [← all_perm h, hp]; exact this
  · have := hv.law; unfold lawf lawful at *; rw [← all_perm h]; simp only [hk.T, hk.known, hg]; exact this
end Go.Proofs.Ytbceakhnnnfiaaa
