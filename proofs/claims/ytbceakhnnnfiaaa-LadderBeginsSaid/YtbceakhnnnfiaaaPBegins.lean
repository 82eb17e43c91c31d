/-
  The law LadderBegins.
-/
import Derived.Test.YtbceakhnnnfiaaaPQ
import Derived.Test.YtbceakhnnnfiaaaDLadderBegins
set_option linter.all false
namespace Go.Proofs.Ytbceakhnnnfiaaa
open Go.Kp
/-- nothing is played yet -/
def nul (b : Bool) (P : Nat) : Ref09Cup := ⟨if b then 1 else 0, (P : Int), 1, []⟩
def begB (b : Bool) (P : Nat) : Bool := decide (mays (nul b P) = players P) && (decide (cst (bmap (nul b P)) (lst (nul b P)) 0 = some 0) && ((List.range P).all fun p => decide (p = 0) || (match cst (bmap (nul b P)) (lst (nul b P)) (p : Int) with | none => false | some x => decide (1 ≤ x) && decide (x ≤ (p : Int)))))
theorem beg_ok : ∀ b : Bool, ∀ P, P < 17 → 2 ≤ P → begB b P = true := by decide +kernel
theorem begins_true {N : Nat} (hN : 4000 ≤ N) (c0 : Ref09Cup) : law09LadderBegins N c0 = some true := by
  unfold law09LadderBegins
  rw [ready_eq hN, Option.bind_some, wakes_ok hN]
  by_cases h : ready c0 = true
  rotate_left
  · simp [h]
  obtain ⟨_, hv0⟩ := ready_iff.1 h
  have ff := hv0.ff
  obtain ⟨c, hc⟩ : ∃ c : Ref09Cup, c = ⟨c0.fForm, c0.fPlayers, c0.fGames, []⟩ := ⟨_, rfl⟩
  have hcp : c.fPlayers = c0.fPlayers := by rw [hc]
  have hcr : c.fResults = [] := by rw [hc]
  have hs : Sz c := ⟨by rw [hcr]; simp, fun r hr => by rw [hcr] at hr; cases hr⟩
  have hv : Val c := by
    refine ⟨?_, ?_, ?_, ?_, ?_⟩
    · unfold lims; rw [hcr]; rfl
    · have := hv0.form; rw [hc]; exact this
    · unfold rght; rw [hcr]; rfl
    · rw [hcr]; rfl
    · unfold lawf; rw [hcr]; rfl
  have hres : ∀ m, res c m = none := fun m => by unfold res; rw [hcr]; rfl
  have hwon : ∀ m, won c m = -1 := fun m => by unfold won; rw [hres]
  have hprot : ∀ n, prot c n = false := fun n => by unfold prot; rw [hres]
  have hk : Kin (nul (decide (c.fForm = 1)) c.fPlayers.toNat) c := by
    refine ⟨?_, ?_, fun m => ?_⟩
    · by_cases e : c.fForm = 1 <;> simp [nul, e]
    · show c.fPlayers = ((c.fPlayers.toNat : Nat) : Int); omega
    · rw [hwon]; rfl
  have hpn : ∀ n, prot c n = prot (nul (decide (c.fForm = 1)) c.fPlayers.toNat) n := fun n => by rw [hprot]; rfl
  have hb := beg_ok (decide (c.fForm = 1)) c.fPlayers.toNat (by omega) (by omega)
  simp only [begB, Bool.and_eq_true, decide_eq_true_eq, List.all_eq_true, List.mem_range, Bool.or_eq_true] at hb
  rw [← hk.mays hpn, ← hk.bmap hpn, ← hk.lst] at hb
  obtain ⟨h1, h2, h3⟩ := hb
  have q := val_iff.2 hv
  have hu : ∀ p x, 0 ≤ p → p < c.fPlayers → cst (bmap c) (lst c) p = some x → ups c p = (x, 0) := by
    intro p x h0 h1 hx
    unfold ups
    rw [if_pos q, if_pos (inr_iff.2 ⟨h0, by omega⟩), hx]
  have hu0 := hu 0 0 (by omega) (by omega) h2
  have hw : winner c = (0, 7) := by unfold winner; rw [if_pos q, hwon]; rfl
  have hh : hangs c = [] := by
    unfold hangs hangl
    rw [List.filterMap_eq_nil_iff]
    intro n _
    rw [if_neg (fun e => e.1 (hwon _))]
  have hml : ((mays c).length : Int) = c.fPlayers := by rw [h1]; simp [players]; omega
  rw [← hc]
  simp only [h, Bool.not_true, Bool.false_eq_true, if_false, cup_eq hN c hs, Option.bind_some, mayWin_eq hN c hs.r, upsets_eq hN c hs.r, hangs_eq hN c hs.r, winner_eq hN c hs.r, q, if_true, hu0, hw, hh, hml, hcp, show ((([] : List Int).length : Int) = 0) from rfl, decide_true, Bool.not_true, Bool.false_eq_true, if_false]
  have hcp' := hcp
  have key : ∀ (fuel i : Nat), 1 ≤ i → i ≤ c.fPlayers.toNat → c.fPlayers.toNat - i < fuel → loopN (fun rec3 x => law09LadderBegins_b2 N c0 (mays c) rec3 x) fuel (i : Int) = some true := by
    intro fuel
    induction fuel with
    | zero => intro i _ _ hf; omega
    | succ fuel ih =>
      intro i hi1 hi2 hf
      show law09LadderBegins_b2 N c0 (mays c) (loopN _ fuel) (i : Int) = _
      rw [law09LadderBegins_b2]
      rcases Nat.lt_or_ge i c.fPlayers.toNat with hlt | hge
      · have hci := h3 i hlt
        rcases hci with hci | hci
        · omega
        · cases hx : cst (bmap c) (lst c) (i : Int) with
          | none => rw [hx] at hci; cases hci
          | some x =>
            rw [hx] at hci
            simp only [Bool.and_eq_true, decide_eq_true_eq] at hci
            have hui := hu (i : Int) x (by omega) (by omega) hx
            have hmi : idx (mays c) (i : Int) = some (i : Int) := by rw [h1]; exact idx_at (by simp [players, hlt])
            rw [← hc]
            rw [if_pos (decide_eq_true (by omega)), cup_eq hN c hs]
            simp only [Option.bind_some, upsets_eq hN c hs.r, hui, hmi, decide_true, Bool.not_true, Bool.false_eq_true, if_false, show ¬ x < 1 from by omega, show ¬ ((i : Int) < x) from by omega, decide_false, w64_succ (i := i) (by omega)]
            exact ih (i + 1) (by omega) (by omega) (by omega)
      · rw [if_neg (by simp; omega)]
        unfold law09LadderBegins_k1
        rw [wakes_ok hN]; rfl
  have := key N 1 (by omega) (by omega) (by omega)
  exact this
end Go.Proofs.Ytbceakhnnnfiaaa
