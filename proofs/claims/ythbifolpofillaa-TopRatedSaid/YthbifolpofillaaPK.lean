/-
  The document's search of all endings.
-/
import Derived.Test.YthbifolpofillaaPJ
set_option linter.all false
namespace Go.Proofs.Ythbifolpofillaa
open Go.Kp

/-- a worth that some ending has -/
inductive Rch (l : Ref01Law) : S → Int → Prop where
  | done {s : S} (h : s.f = l.fFrames) : Rch l s 0
  | step {s : S} {b k : Int} (hm : may l s b) (hb : 0 ≤ b) (h : Rch l (nxt l s b) k) : Rch l s (wor l s b + k)

theorem rch_bd {l : Ref01Law} (hV : V l) {s : S} {k : Int} (h : Rch l s k) : Inv2 l s → 0 ≤ k ∧ k ≤ G l s := by
  induction h with
  | done h => intro hi; exact ⟨Int.le_refl _, (G_bd hV hi).1⟩
  | @step s b k hm hb _ ih =>
    intro hi
    have h1 := ih (inv2_nxt hV hi hm.1 hm.2.2)
    have h2 := wor_bd hV hi.inv hm.2.2
    have hc := cnt_le hV hi.inv hm.2.2
    have h3 := (G_step hV hi hm.1 hc.1 hc.2).1
    have h3' : wor l s b + G l (nxt l s b) ≤ G l s := h3
    omega

theorem rch_ends {l : Ref01Law} (hV : V l) : ∀ (n : Nat) {s : S}, mu l s < n → Inv2 l s → Rch l s 0 ∧ Rch l s (G l s) := by
  intro n
  induction n with
  | zero => intro s h; omega
  | succ n ih =>
    intro s h hi
    by_cases hd : s.f = l.fFrames
    · have : G l s = 0 := by unfold G; rw [if_pos hd]
      rw [this]
      exact ⟨.done hd, .done hd⟩
    · have hf : s.f < l.fFrames := by have := hi.inv.f1; omega
      have hp := hi.inv.p0
      constructor
      · have hm : may l s 0 := ⟨hf, by omega, by omega⟩
        have hc := cnt_le hV hi.inv (b := 0) (by omega)
        have := mu_step hV hi.inv hf hc.1 hc.2
        have h1 := (ih (s := nxt l s 0) (by show mu l (nxtn l s _) < n; omega) (inv2_nxt hV hi hf (by omega))).1
        have h2 := Rch.step hm (Int.le_refl _) h1
        have hw : wor l s 0 = 0 := by unfold wor; rw [cnt_zero hV]; simp
        rw [hw] at h2
        exact h2
      · have hm : may l s s.p := ⟨hf, by omega, Int.le_refl _⟩
        have hc := cnt_le hV hi.inv (b := s.p) (Int.le_refl _)
        have := mu_step hV hi.inv hf hc.1 hc.2
        have h1 := (ih (s := nxt l s s.p) (by show mu l (nxtn l s _) < n; omega) (inv2_nxt hV hi hf (Int.le_refl _))).2
        have h2 := Rch.step hm (by omega) h1
        have hs : wor l s s.p + G l (nxt l s s.p) = G l s := (G_step hV hi hf hc.1 hc.2).2 (cnt_all hV hi.inv)
        rw [hs] at h2
        exact h2

def pad (o : List Bool) (m : Nat) : List Bool := o ++ List.replicate (m - o.length) false
theorem pad_len (o : List Bool) (m : Nat) : (pad o m).length = max o.length m := by simp [pad]; omega
theorem pad_true (o : List Bool) (m j : Nat) : (pad o m)[j]? = some true ↔ o[j]? = some true := by
  unfold pad
  by_cases h : j < o.length
  · rw [List.getElem?_append_left h]
  · rw [List.getElem?_append_right (by omega), List.getElem?_replicate, List.getElem?_eq_none (by omega)]
    split <;> simp

def stp (n k : Nat) (x : Bool) (o : List Bool) : List Bool := (pad o (n + k + 1)).set (n + k) ((pad o (n + k + 1))[n + k]?.getD false || x)
def mrg (n : Nat) : Nat → List Bool → List Bool → List Bool
  | _, [], o => o
  | k, x :: r, o => mrg n (k + 1) r (stp n k x o)

theorem stp_spec (n k : Nat) (x : Bool) (o : List Bool) : (stp n k x o).length = max o.length (n + k + 1) ∧ ∀ j, (stp n k x o)[j]? = some true ↔ o[j]? = some true ∨ (j = n + k ∧ x = true) := by
  unfold stp
  refine ⟨by rw [List.length_set, pad_len], fun j => ?_⟩
  by_cases h : j = n + k
  · subst h
    have hl : n + k < (pad o (n + k + 1)).length := by rw [pad_len]; omega
    rw [List.getElem?_set_self hl]
    have hp := pad_true o (n + k + 1) (n + k)
    cases hq : (pad o (n + k + 1))[n + k]? with
    | none => rw [List.getElem?_eq_none_iff] at hq; omega
    | some v =>
      rw [hq] at hp
      cases v <;> cases x <;> simp_all
  · rw [List.getElem?_set_ne (by omega), pad_true]
    simp [h]

theorem mrg_spec (n : Nat) : ∀ (r : List Bool) (k : Nat) (o : List Bool), (mrg n k r o).length = max o.length (if r = [] then 0 else n + k + r.length) ∧
    ∀ j, (mrg n k r o)[j]? = some true ↔ o[j]? = some true ∨ ∃ i, j = n + k + i ∧ r[i]? = some true
  | [], k, o => by simp [mrg]
  | x :: r, k, o => by
    obtain ⟨h1, h2⟩ := stp_spec n k x o
    obtain ⟨h3, h4⟩ := mrg_spec n r (k + 1) (stp n k x o)
    refine ⟨?_, fun j => ?_⟩
    · show (mrg n (k + 1) r (stp n k x o)).length = _
      rw [h3, h1]
      split
      · rename_i e; subst e; simp
      · simp; omega
    · show (mrg n (k + 1) r (stp n k x o))[j]? = some true ↔ _
      rw [h4, h2]
      constructor
      · rintro ((h | ⟨h, hx⟩) | ⟨i, h, hr⟩)
        · exact .inl h
        · exact .inr ⟨0, by omega, by simp [hx]⟩
        · exact .inr ⟨i + 1, by omega, by simpa using hr⟩
      · rintro (h | ⟨i, h, hr⟩)
        · exact .inl (.inl h)
        · cases i with
          | zero => exact .inl (.inr ⟨by omega, by simpa using hr⟩)
          | succ i => exact .inr ⟨i, by omega, by simpa using hr⟩

theorem mrg_len_mono (n : Nat) (r : List Bool) (k : Nat) (o : List Bool) : o.length ≤ (mrg n k r o).length := by rw [(mrg_spec n r k o).1]; omega

theorem mget_mput {K V : Type} [DecidableEq K] (m : List (K × V)) (k : K) (v : V) (k' : K) : mget (mput m k v) k' = if k' = k then some v else mget m k' := by
  induction m with
  | nil => simp [mput, mget]
  | cons p m ih =>
    unfold mput
    by_cases h : k = p.1
    · rw [if_pos h]
      simp only [mget]
      by_cases h2 : k' = k
      · simp [h2]
      · rw [if_neg h2, if_neg h2, if_neg (by rw [← h]; exact h2)]
    · rw [if_neg h]
      simp only [mget, ih]
      by_cases h2 : k' = p.1
      · rw [if_pos h2, if_pos h2, if_neg (by rw [h2]; exact fun e => h e.symm)]
      · rw [if_neg h2, if_neg h2]

def Good (l : Ref01Law) (s : S) (o : List Bool) : Prop := (o.length : Int) = G l s + 1 ∧ ∀ j : Nat, o[j]? = some true ↔ Rch l s j
structure Part (l : Ref01Law) (s : S) (v : Int) (o : List Bool) : Prop where
  le : (o.length : Int) ≤ G l s + 1
  ge : ∀ b, 0 ≤ b → b < v → b ≤ s.p → wor l s b + G l (nxt l s b) + 1 ≤ o.length
  tr : ∀ j : Nat, o[j]? = some true ↔ ∃ b k, 0 ≤ b ∧ b < v ∧ b ≤ s.p ∧ Rch l (nxt l s b) k ∧ (j : Int) = wor l s b + k

theorem part_step {l : Ref01Law} (hV : V l) {s : S} (hi : Inv2 l s) (hf : s.f < l.fFrames) {v : Int} (hv0 : 0 ≤ v) (hvp : v ≤ s.p) {o r : List Bool} (hp : Part l s v o) (hg : Good l (nxt l s v) r) :
    Part l s (v + 1) (mrg (wor l s v).toNat 0 r o) := by
  have hw := wor_bd hV hi.inv hvp
  have hc := cnt_le hV hi.inv hvp
  have hs := (G_step hV hi hf hc.1 hc.2).1
  have hs' : wor l s v + G l (nxt l s v) ≤ G l s := hs
  obtain ⟨m1, m2⟩ := mrg_spec (wor l s v).toNat r 0 o
  have hg0 := (G_bd hV (inv2_nxt hV hi hf hvp)).1
  have hrl := hg.1
  have hrne : r ≠ [] := by intro e; rw [e] at hrl; simp at hrl; omega
  rw [if_neg hrne] at m1
  have hple := hp.le
  refine ⟨by rw [m1]; omega, fun b h0 h1 h2 => ?_, fun j => ?_⟩
  · rw [m1]
    by_cases h : b = v
    · subst h; omega
    · have := hp.ge b h0 (by omega) h2; omega
  · rw [m2, hp.tr]
    constructor
    · rintro (⟨b, k, h1, h2, h3, h4, h5⟩ | ⟨i, h1, h2⟩)
      · exact ⟨b, k, h1, by omega, h3, h4, h5⟩
      · exact ⟨v, i, hv0, by omega, hvp, (hg.2 i).1 h2, by omega⟩
    · rintro ⟨b, k, h1, h2, h3, h4, h5⟩
      by_cases h : b = v
      · subst h
        have hk := (rch_bd hV h4 (inv2_nxt hV hi hf hvp)).1
        refine .inr ⟨k.toNat, by omega, (hg.2 _).2 ?_⟩
        rw [Int.toNat_of_nonneg hk]; exact h4
      · exact .inl ⟨b, k, h1, by omega, h3, h4, h5⟩

/-- the final counts, as they are listed -/
def fins (n : Int) : Nat → List Bool → List Int
  | _, [] => []
  | k, true :: o => (n + k) :: fins n (k + 1) o
  | k, false :: o => fins n (k + 1) o
theorem fins_mem (n : Int) : ∀ (o : List Bool) (k : Nat) (x : Int), x ∈ fins n k o ↔ ∃ i : Nat, o[i]? = some true ∧ x = n + k + i
  | [], k, x => by simp [fins]
  | b :: o, k, x => by
    have ih := fins_mem n o (k + 1) x
    constructor
    · intro h
      cases b with
      | true =>
        rcases List.mem_cons.1 h with rfl | h
        · exact ⟨0, rfl, by simp⟩
        · obtain ⟨i, h1, h2⟩ := ih.1 h
          exact ⟨i + 1, by simpa using h1, by omega⟩
      | false =>
        obtain ⟨i, h1, h2⟩ := ih.1 h
        exact ⟨i + 1, by simpa using h1, by omega⟩
    · rintro ⟨i, h1, h2⟩
      cases i with
      | zero => simp at h1; subst h1; rw [h2]; simp [fins]
      | succ i =>
        have : x ∈ fins n (k + 1) o := ih.2 ⟨i, by simpa using h1, by omega⟩
        cases b with
        | true => exact List.mem_cons_of_mem _ this
        | false => exact this
theorem fins_app (n : Int) : ∀ (o o' : List Bool) (k : Nat), fins n k (o ++ o') = fins n k o ++ fins n (k + o.length) o'
  | [], o', k => by simp [fins]
  | b :: o, o', k => by
    have ih := fins_app n o o' (k + 1)
    have e : k + (b :: o).length = k + 1 + o.length := by simp; omega
    rw [e]
    cases b with
    | true => simp [fins, ih]
    | false => simp [fins, ih]
theorem fins_len (n : Int) : ∀ (o : List Bool) (k : Nat), (fins n k o).length ≤ o.length
  | [], k => by simp [fins]
  | b :: o, k => by
    have := fins_len n o (k + 1)
    cases b <;> simp [fins] <;> omega

section
variable {l : Ref01Law} (hV : V l) {sheet : List Int} (hk : Ok l (s0 l) sheet) (hn : sheet.length ≤ 90)
include hV hk hn

end
end Go.Proofs.Ythbifolpofillaa
