/-
  The law LadderOn.
-/
import Derived.Test.YtbceakhnnnfiaaaPR
import Derived.Test.YtbceakhnnnfiaaaDLadderOn
set_option linter.all false
namespace Go.Proofs.Ytbceakhnnnfiaaa
open Go.Kp
theorem ex_par {c : Ref09Cup} (hv : Val c) {m : Nat} (hm : m + 1 < (T c).length) : ∃ n, m < n ∧ n < (T c).length ∧ ((fs (T c) n).fMatch = m ∨ (sn (T c) n).fMatch = m) := by
  have ht := hv.ok
  have hp : (kids (T c)).Perm (List.range ((T c).length - 1)) := List.isPerm_iff.1 ht.kids
  have hk : m ∈ kids (T c) := hp.mem_iff.2 (List.mem_range.2 (by omega))
  unfold kids at hk
  obtain ⟨p, hpT, hmm⟩ := List.mem_flatMap.1 hk
  obtain ⟨n, hn⟩ := List.mem_iff_getElem?.1 hpT
  have hlt := len_lt hn
  have hg := getT hlt
  rw [hn] at hg
  have e : p = (T c).getD n dP := Option.some.inj hg
  have e1 : p.fFirst = fs (T c) n := by rw [e]; rfl
  have e2 : p.fSecond = sn (T c) n := by rw [e]; rfl
  rw [e1, e2] at hmm
  have hs := ht.side n hlt
  unfold sok at hs
  have hms : ∀ s, m ∈ ms s → s.fMatch = (m : Int) := by
    intro s h
    unfold ms at h
    split at h
    · cases h
    · have := List.mem_singleton.1 h; omega
  rcases List.mem_append.1 hmm with h | h
  · have := hms _ h; exact ⟨n, by omega, hlt, .inl this⟩
  · have := hms _ h; exact ⟨n, by omega, hlt, .inr this⟩
theorem won_res {c : Ref09Cup} (hv : Val c) {n : Nat} (h : won c (n : Int) ≠ -1) : 0 ≤ known c (fs (T c) n) ∧ 0 ≤ known c (sn (T c) n) := by
  have hres : ∃ r, res c (n : Int) = some r := by
    cases e : res c (n : Int) with
    | none => unfold won at h; rw [e] at h; simp at h
    | some r => exact ⟨r, rfl⟩
  obtain ⟨r, hr⟩ := hres
  obtain ⟨ha, hb, _⟩ := hv.res n hr
  exact ⟨ha, hb⟩
theorem all_won {c : Ref09Cup} (hv : Val c) (h : won c (lst c : Int) ≠ -1) : ∀ (d m : Nat), (T c).length - m ≤ d → m < (T c).length → won c (m : Int) ≠ -1 := by
  intro d
  induction d with
  | zero => intro m h1 h2; omega
  | succ d ih =>
    intro m h1 h2
    rcases Nat.lt_or_ge (m + 1) (T c).length with hh | hh
    · obtain ⟨n, hn1, hn2, hn3⟩ := ex_par hv hh
      have hw := won_res hv (ih n (by omega) hn2)
      unfold known at hw
      rcases hn3 with e | e
      · rw [e, if_neg (by omega)] at hw; omega
      · rw [e, if_neg (show ¬ ((m : Int) < 0) from by omega)] at hw; omega
    · have : m = lst c := by unfold lst; omega
      subst this; exact h
theorem next_nil {c : Ref09Cup} (hv : Val c) : nexts c = [] ↔ won c (lst c : Int) ≠ -1 := by
  have ff := hv.ff
  have hl := hv.len
  unfold nexts nextl
  rw [List.filterMap_eq_nil_iff]
  constructor
  · intro h hw
    -- the first that is not decided
    have : ∃ n, n < (T c).length ∧ won c (n : Int) = -1 ∧ ∀ k, k < n → won c (k : Int) ≠ -1 := by
      have key : ∀ n, n < (T c).length → won c (n : Int) = -1 → ∃ m, m < (T c).length ∧ won c (m : Int) = -1 ∧ ∀ k, k < m → won c (k : Int) ≠ -1 := by
        intro n
        induction n using Nat.strongRecOn with
        | ind n ih =>
          intro hn hw
          by_cases hex : ∃ k, k < n ∧ won c (k : Int) = -1
          · obtain ⟨k, hk, hkw⟩ := hex
            exact ih k hk (by omega) hkw
          · exact ⟨n, hn, hw, fun k hk e => hex ⟨k, hk, e⟩⟩
      exact key (lst c) (by unfold lst; omega) hw
    obtain ⟨n, hn, hwn, hk⟩ := this
    have hs := hv.ok.side n hn
    have side : ∀ s, sok c.fPlayers.toNat n s → known c s ≠ -1 := by
      intro s hs
      unfold known
      rcases hs with ⟨h1, h2, _⟩ | ⟨_, h2, h3⟩
      · rw [if_pos (by omega)]; omega
      · rw [if_neg (by omega)]
        have := hk s.fMatch.toNat (by omega)
        rwa [show ((s.fMatch.toNat : Nat) : Int) = s.fMatch from by omega] at this
    have := h n (List.mem_range.2 hn)
    have ho : opn c n = true := by unfold opn; simp [side _ hs.1, side _ hs.2, hwn]
    rw [if_pos ho] at this
    cases this
  · intro h n hn
    have := all_won hv h _ n (Nat.le_refl _) (List.mem_range.1 hn)
    rw [if_neg]
    unfold opn
    simp [this]
theorem mem_next {c : Ref09Cup} {x : LadderMatch} (h : x ∈ nexts c) : ∃ n : Nat, n < (T c).length ∧ opn c n = true ∧ x = ⟨(n : Int), known c (fs (T c) n), known c (sn (T c) n), cnt (known c (fs (T c) n)) (gm c n), cnt (known c (sn (T c) n)) (gm c n)⟩ := by
  unfold nexts nextl at h
  obtain ⟨n, hn, h⟩ := List.mem_filterMap.1 h
  split at h
  · rename_i ho; exact ⟨n, List.mem_range.1 hn, ho, (Option.some.inj h).symm⟩
  · cases h
end Go.Proofs.Ytbceakhnnnfiaaa
