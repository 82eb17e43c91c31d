/-
  Knock-outs without protests.
-/
import Derived.Test.YtbceakhnnnfiaaaPOn
set_option linter.all false
namespace Go.Proofs.Ytbceakhnnnfiaaa
open Go.Kp
theorem plain_won {c : Ref09Cup} (hv : Val c) (hp : ∀ n, prot c n = false) {w : List Int} (hw : IsC c w) : ∀ n : Nat, n < (T c).length → won c (n : Int) ≠ -1 → ca c n w = known c (fs (T c) n) ∧ cb c n w = known c (sn (T c) n) ∧ w.getD n 0 = won c (n : Int) := by
  intro n
  induction n using Nat.strongRecOn with
  | ind n ih =>
    intro hn hwn
    have hk := won_res hv hwn
    have hs := hv.ok.side n hn
    have side : ∀ s, sok c.fPlayers.toNat n s → 0 ≤ known c s → comes s w = known c s := by
      intro s hs hk
      unfold comes known at *
      rcases hs with ⟨h1, _, _⟩ | ⟨_, h2, h3⟩
      · rw [if_pos (by omega), if_pos (by omega)]
      · rw [if_neg (by omega)] at hk ⊢
        rw [if_neg (by omega)]
        have em : ((s.fMatch.toNat : Nat) : Int) = s.fMatch := by omega
        have := (ih s.fMatch.toNat (by omega) (by omega) (by rw [em]; omega)).2.2
        rw [em] at this; exact this
    have ea := side _ hs.1 hk.1
    have eb := side _ hs.2 hk.2
    refine ⟨ea, eb, ?_⟩
    have hsw : sw c n w = won c (n : Int) := by
      unfold sw sett ply
      rw [if_pos ⟨by rw [show ca c n w = _ from ea, show cb c n w = _ from eb], hp n⟩]
    have hwb := hv.won n
    rcases (hw.ok n hn).2 with h | h
    · omega
    · rw [← h, hsw]
def pf (r : Ref09Result) : Ref09Result := ⟨r.fMatch, r.fGames, false⟩
def unp (c : Ref09Cup) : Ref09Cup := ⟨c.fForm, c.fPlayers, c.fGames, c.fResults.map pf⟩
theorem unp_map (c : Ref09Cup) : (unp c).fResults.map mg = c.fResults.map mg := by
  unfold unp; rw [List.map_map]; rfl
end Go.Proofs.Ytbceakhnnnfiaaa
