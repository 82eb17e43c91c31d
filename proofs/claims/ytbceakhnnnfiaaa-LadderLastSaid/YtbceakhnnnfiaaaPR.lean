/-
  Protests that come and go; a game more.
-/
import Derived.Test.YtbceakhnnnfiaaaPQ
set_option linter.all false
namespace Go.Proofs.Ytbceakhnnnfiaaa
open Go.Kp
/-! protests -/
def mg (r : Ref09Result) : Int × List Int := (r.fMatch, r.fGames)
theorem mg_all {l m : List Ref09Result} (h : l.map mg = m.map mg) (p : Int × List Int → Bool) : (l.all fun r => p (mg r)) = m.all fun r => p (mg r) := by
  have e : ∀ l : List Ref09Result, (l.all fun r => p (mg r)) = (l.map mg).all p := fun l => by rw [List.all_map]; rfl
  rw [e, e, h]
theorem mg_res {c x : Ref09Cup} (h : x.fResults.map mg = c.fResults.map mg) (m : Int) : (res x m).map mg = (res c m).map mg := by
  have e : ∀ l : List Ref09Result, (l.find? fun r => decide (r.fMatch = m)).map mg = (l.map mg).find? fun q => decide (q.1 = m) := fun l => by rw [List.find?_map]; rfl
  unfold res
  rw [e, e, h]
theorem mg_won {c x : Ref09Cup} (h : x.fResults.map mg = c.fResults.map mg) (hg : x.fGames = c.fGames) (m : Int) : won x m = won c m := by
  have := mg_res h m
  unfold won
  cases e1 : res x m with
  | none =>
    rw [e1] at this
    cases e2 : res c m with
    | none => rfl
    | some r => rw [e2] at this; cases this
  | some r =>
    rw [e1] at this
    cases e2 : res c m with
    | none => rw [e2] at this; cases this
    | some q =>
      rw [e2] at this
      simp only [Option.map_some, Option.some.injEq, mg, Prod.mk.injEq] at this
      simp only [this.2, hg]
theorem mg_kin {c x : Ref09Cup} (h : x.fResults.map mg = c.fResults.map mg) (hf : x.fForm = c.fForm) (hp : x.fPlayers = c.fPlayers) (hg : x.fGames = c.fGames) : Kin c x :=
  ⟨by rw [hf], hp, mg_won h hg⟩
theorem mg_val {c x : Ref09Cup} (hv : Val c) (h : x.fResults.map mg = c.fResults.map mg) (hf : x.fForm = c.fForm) (hp : x.fPlayers = c.fPlayers) (hg : x.fGames = c.fGames) : Val x := by
  have hk := mg_kin h hf hp hg
  have hlen : x.fResults.length = c.fResults.length := by have := congrArg List.length h; simpa using this
  refine ⟨?_, ?_, ?_, ?_, ?_⟩
  · have := hv.lim; unfold lims at *; rw [hlen]
    rw [show (x.fResults.all fun r => decide (r.fGames.length ≤ 5)) = (c.fResults.all fun r => decide (r.fGames.length ≤ 5)) from mg_all h fun q => decide (q.2.length ≤ 5)]; exact this
  · have := hv.form; unfold form at *; rw [hf, hp, hg]; exact this
  · have := hv.rght; unfold rght rghtR at *
    rw [hp, show (x.fResults.all fun r => inr r.fMatch 0 (c.fPlayers - 2) && decide (0 < r.fGames.length)) = (c.fResults.all fun r => inr r.fMatch 0 (c.fPlayers - 2) && decide (0 < r.fGames.length)) from mg_all h fun q => inr q.1 0 (c.fPlayers - 2) && decide (0 < q.2.length)]; exact this
  · have hd := hv.dup
    rw [dup_iff] at hd ⊢
    refine ⟨fun r _ y hy => absurd hy (List.not_mem_nil), ?_⟩
    have e : ∀ l : List Ref09Result, l.Pairwise (fun a b => a.fMatch ≠ b.fMatch) ↔ (l.map mg).Pairwise (fun a b => a.1 ≠ b.1) := fun l => by rw [List.pairwise_map]; rfl
    rw [e, h, ← e]; exact hd.2
  · have := hv.law; unfold lawf lawful at *
    simp only [hk.T, hk.known, hg]
    exact (mg_all h fun q => decide (0 ≤ known c (fs (T c) q.1.toNat)) && (decide (0 ≤ known c (sn (T c) q.1.toNat)) && lg c.fGames (known c (fs (T c) q.1.toNat)) (known c (sn (T c) q.1.toNat)) [] q.2)).trans this
/-! a game more -/
theorem nodup_le : ∀ (n : Nat) (l : List Int), l.Nodup → (∀ x ∈ l, 0 ≤ x ∧ x < (n : Int)) → l.length ≤ n
  | 0, l, _, h => by
    cases l with
    | nil => simp
    | cons x l => have := h x (by simp); omega
  | n + 1, l, hd, h => by
    by_cases hm : (n : Int) ∈ l
    · have h2 := nodup_le n (l.erase (n : Int)) (hd.erase _) (fun x hx => by
        have hx1 := List.mem_of_mem_erase hx
        have hne : x ≠ (n : Int) := fun e => by subst e; exact (List.Nodup.not_mem_erase hd) hx
        have := h x hx1
        omega)
      rw [List.length_erase_of_mem hm] at h2
      omega
    · have := nodup_le n l hd fun x hx => by
        have hne : x ≠ (n : Int) := fun e => hm (by rw [← e]; exact hx)
        have := h x hx
        omega
      omega
structure Upd (c x : Ref09Cup) (m : Nat) (p : Int) : Prop where
  hf : x.fForm = c.fForm
  hp : x.fPlayers = c.fPlayers
  hg : x.fGames = c.fGames
  len : x.fResults.length ≤ 15
  other : ∀ r ∈ x.fResults, r.fMatch ≠ (m : Int) → r ∈ c.fResults
  same : ∀ r ∈ x.fResults, r.fMatch = (m : Int) → r.fGames = gm c m ++ [p]
  res : ∀ k : Int, k ≠ m → res x k = res c k
  mine : ∃ r, Go.Proofs.Ytbceakhnnnfiaaa.res x (m : Int) = some r ∧ r.fGames = gm c m ++ [p]
  dup : Go.Proofs.Ytbceakhnnnfiaaa.dup [] x.fResults = false
theorem open_len {c : Ref09Cup} (hv : Val c) {m : Nat} (ho : won c (m : Int) = -1) : (gm c m).length ≤ 4 := by
  unfold gm
  unfold won at ho
  cases e : res c (m : Int) with
  | none => simp
  | some r =>
    rw [e] at ho
    simp only at ho ⊢
    have ff := hv.ff
    obtain ⟨ha, hb, hl⟩ := hv.res m e
    obtain ⟨h1, _⟩ := lg_iff.1 hl
    rcases find_dec (G := c.fGames) (l := r.fGames) with ⟨x, _, hx, _, hd⟩ | ⟨hn, _⟩
    · exfalso
      rcases h1 x hx with rfl | rfl <;> omega
    · -- each of both has at most half
      have ca : 2 * cnt (known c (fs (T c) m)) r.fGames ≤ c.fGames := by
        refine Int.not_lt.1 fun hlt => ?_
        exact hn _ (mem_of_cnt (by omega) hlt) hlt
      have cb : 2 * cnt (known c (sn (T c) m)) r.fGames ≤ c.fGames := by
        refine Int.not_lt.1 fun hlt => ?_
        exact hn _ (mem_of_cnt (by omega) hlt) hlt
      have tot : ∀ (l : List Int) (a b : Int), (∀ x ∈ l, x = a ∨ x = b) → (l.length : Int) ≤ cnt a l + cnt b l := by
        intro l a b
        induction l with
        | nil => intro _; simp [cnt]
        | cons y l ih =>
          intro h
          have := ih fun x hx => h x (by simp [hx])
          unfold cnt at *
          rw [List.count_cons, List.count_cons, List.length_cons]
          rcases h y (by simp) with rfl | rfl <;> simp <;> omega
      have := tot _ _ _ h1
      omega
theorem upd_val {c x : Ref09Cup} (hv : Val c) {m : Nat} {p : Int} (hm : m < (T c).length) (ho : opn c m = true) (hp : p = known c (fs (T c) m) ∨ p = known c (sn (T c) m)) (hu : Upd c x m p) : Val x := by
  have ff := hv.ff
  have hl := hv.len
  have hT : T x = T c := by unfold T; rw [hu.hf, hu.hp]
  simp only [opn, Bool.and_eq_true, decide_eq_true_eq] at ho
  have hgl := open_len hv ho.2.2
  have hwon : ∀ k : Int, k ≠ m → won x k = won c k := fun k hk => by unfold won; rw [hu.res k hk, hu.hg]
  have hkn : ∀ s, s.fMatch ≠ (m : Int) → known x s = known c s := fun s hs => by unfold known; rw [hwon _ hs]
  refine ⟨?_, ?_, ?_, hu.dup, ?_⟩
  · unfold lims
    rw [Bool.and_eq_true, decide_eq_true_eq, List.all_eq_true]
    refine ⟨hu.len, fun r hr => decide_eq_true ?_⟩
    by_cases e : r.fMatch = (m : Int)
    · rw [hu.same r hr e]; simp; omega
    · have h := hv.lim
      simp only [lims, Bool.and_eq_true, List.all_eq_true, decide_eq_true_eq] at h
      exact h.2 r (hu.other r hr e)
  · have := hv.form; unfold form at *; rw [hu.hf, hu.hp, hu.hg]; exact this
  · unfold rght
    rw [List.all_eq_true]
    intro r hr
    unfold rghtR
    rw [hu.hp]
    by_cases e : r.fMatch = (m : Int)
    · rw [hu.same r hr e, e, Bool.and_eq_true, inr_iff]
      exact ⟨by omega, by simp⟩
    · exact List.all_eq_true.1 hv.rght r (hu.other r hr e)
  · unfold lawf
    rw [List.all_eq_true]
    intro r hr
    rw [hT]
    by_cases e : r.fMatch = (m : Int)
    · have hs := hv.ok.side m hm
      have h1 : (fs (T c) m).fMatch ≠ (m : Int) := by have := hs.1; unfold sok at this; omega
      have h2 : (sn (T c) m).fMatch ≠ (m : Int) := by have := hs.2; unfold sok at this; omega
      have hk := hv.known hm
      unfold lawful
      rw [e, Int.toNat_natCast, hkn _ h1, hkn _ h2, hu.hg, hu.same r hr e]
      simp only [Bool.and_eq_true, decide_eq_true_eq]
      refine ⟨by omega, by omega, lg_iff.2 ⟨fun y hy => ?_, fun k hk' => ?_⟩⟩
      · rcases List.mem_append.1 hy with hy | hy
        · unfold gm at hy
          cases er : res c (m : Int) with
          | none => rw [er] at hy; cases hy
          | some q => rw [er] at hy; exact (lg_iff.1 (hv.res m er).2.2).1 y hy
        · rw [List.mem_singleton.1 hy]; exact hp
      · simp only [List.nil_append]
        have hkl : k ≤ (gm c m).length := by simp at hk'; omega
        rw [List.take_append_of_le_length hkl]
        unfold gm at *
        cases er : res c (m : Int) with
        | none => simp [dec]
        | some q =>
          rw [er] at hkl
          simp only at hkl ⊢
          rcases Nat.lt_or_ge k q.fGames.length with hh | hh
          · have := (lg_iff.1 (hv.res m er).2.2).2 k hh; simpa using this
          · rw [List.take_of_length_le hh]
            have := ho.2.2; unfold won at this; rw [er] at this; simp only at this; omega
    · have hrc := hu.other r hr e
      have hq := List.all_eq_true.1 hv.rght r hrc
      simp only [rghtR, Bool.and_eq_true, inr_iff] at hq
      have hlw := List.all_eq_true.1 hv.law r hrc
      unfold lawful at *
      simp only [Bool.and_eq_true, decide_eq_true_eq] at hlw
      have side : ∀ s, 0 ≤ known c s → known x s = known c s := by
        intro s h0
        by_cases es : s.fMatch = (m : Int)
        · exfalso
          unfold known at h0
          rw [if_neg (by omega), es] at h0
          omega
        · exact hkn s es
      rw [side _ hlw.1, side _ hlw.2.1, hu.hg]
      simp only [Bool.and_eq_true, decide_eq_true_eq]
      exact hlw
theorem upd_set {c : Ref09Cup} (hv : Val c) {m : Nat} {p : Int} {r : Ref09Result} (hr : res c (m : Int) = some r) {i : Nat} (hi : c.fResults[i]? = some r) : Upd c ⟨c.fForm, c.fPlayers, c.fGames, c.fResults.set i ⟨r.fMatch, r.fGames ++ [p], r.fProtested⟩⟩ m p := by
  have hrm := res_mem hr
  have hg : gm c m = r.fGames := by unfold gm; rw [hr]
  have hlim := hv.lim
  simp only [lims, Bool.and_eq_true, decide_eq_true_eq] at hlim
  have hil := len_lt hi
  have hmm : (c.fResults.set i ⟨r.fMatch, r.fGames ++ [p], r.fProtested⟩).map (·.fMatch) = c.fResults.map (·.fMatch) := by
    rw [List.map_set]
    refine List.ext_getElem? fun k => ?_
    rw [List.getElem?_set]
    by_cases e : i = k
    · subst e; simp [hil, (List.getElem?_eq_some_iff.1 hi).2]
    · simp [e]
  have hdup : dup [] (c.fResults.set i ⟨r.fMatch, r.fGames ++ [p], r.fProtested⟩) = false := by
    have hd := hv.dup
    rw [dup_iff] at hd ⊢
    refine ⟨fun r _ y hy => absurd hy (List.not_mem_nil), ?_⟩
    have e : ∀ l : List Ref09Result, l.Pairwise (fun a b => a.fMatch ≠ b.fMatch) ↔ (l.map (·.fMatch)).Pairwise (· ≠ ·) := fun l => by rw [List.pairwise_map]
    rw [e, hmm, ← e]; exact hd.2
  have hmem : ∀ q, q ∈ c.fResults.set i ⟨r.fMatch, r.fGames ++ [p], r.fProtested⟩ → q ∈ c.fResults ∨ q = ⟨r.fMatch, r.fGames ++ [p], r.fProtested⟩ := fun q hq => List.mem_or_eq_of_mem_set hq
  have hnew : (⟨r.fMatch, r.fGames ++ [p], r.fProtested⟩ : Ref09Result) ∈ c.fResults.set i ⟨r.fMatch, r.fGames ++ [p], r.fProtested⟩ := List.mem_iff_getElem?.2 ⟨i, by rw [List.getElem?_set_self hil]⟩
  have hresx : ∀ q ∈ c.fResults.set i ⟨r.fMatch, r.fGames ++ [p], r.fProtested⟩, res ⟨c.fForm, c.fPlayers, c.fGames, c.fResults.set i ⟨r.fMatch, r.fGames ++ [p], r.fProtested⟩⟩ q.fMatch = some q := fun q hq => res_of_mem (c := ⟨c.fForm, c.fPlayers, c.fGames, c.fResults.set i ⟨r.fMatch, r.fGames ++ [p], r.fProtested⟩⟩) hdup hq
  have hmine : res ⟨c.fForm, c.fPlayers, c.fGames, c.fResults.set i ⟨r.fMatch, r.fGames ++ [p], r.fProtested⟩⟩ (m : Int) = some ⟨r.fMatch, r.fGames ++ [p], r.fProtested⟩ := by
    have := hresx ⟨r.fMatch, r.fGames ++ [p], r.fProtested⟩ hnew
    rw [← hrm.2]; exact this
  refine ⟨rfl, rfl, rfl, by simp; exact hlim.1, fun q hq hne => ?_, fun q hq he => ?_, fun k hk => ?_, ⟨_, hmine, by rw [hg]⟩, hdup⟩
  · rcases hmem q hq with h | h
    · exact h
    · subst h; exact absurd hrm.2 hne
  · have h1 := hresx q hq
    rw [he, hmine] at h1
    cases h1; rw [hg]
  · cases e : res c k with
    | none =>
      unfold res at e ⊢
      rw [List.find?_eq_none] at e ⊢
      intro q hq
      rcases hmem q hq with h | h
      · exact e q h
      · subst h
        have : ¬ r.fMatch = k := fun e' => hk (e'.symm.trans hrm.2)
        simpa using this
    | some q =>
      have hqm := res_mem e
      have hq : q ∈ c.fResults.set i ⟨r.fMatch, r.fGames ++ [p], r.fProtested⟩ := by
        obtain ⟨j, hj⟩ := List.mem_iff_getElem?.1 hqm.1
        refine List.mem_iff_getElem?.2 ⟨j, ?_⟩
        rw [List.getElem?_set_ne, hj]
        intro e'; subst e'; rw [hi] at hj; cases hj; exact hk (hqm.2.symm.trans hrm.2)
      have := hresx q hq
      rwa [hqm.2] at this
theorem upd_new {c : Ref09Cup} (hv : Val c) {m : Nat} {p : Int} (hm : m < (T c).length) (hr : res c (m : Int) = none) : Upd c ⟨c.fForm, c.fPlayers, c.fGames, c.fResults ++ [⟨(m : Int), [p], false⟩]⟩ m p := by
  have ff := hv.ff
  have hl := hv.len
  have hg : gm c m = [] := by unfold gm; rw [hr]
  have hno : ∀ q ∈ c.fResults, q.fMatch ≠ (m : Int) := fun q hq => by
    unfold res at hr; rw [List.find?_eq_none] at hr; have := hr q hq; simpa using this
  have hd := hv.dup
  rw [dup_iff] at hd
  have hdup : dup [] (c.fResults ++ [⟨(m : Int), [p], false⟩]) = false := by
    rw [dup_iff]
    refine ⟨fun r _ y hy => absurd hy (List.not_mem_nil), ?_⟩
    rw [List.pairwise_append]
    refine ⟨hd.2, List.pairwise_singleton _ _, fun a ha b hb => ?_⟩
    rw [List.mem_singleton.1 hb]; exact hno a ha
  have hnd : (c.fResults.map (·.fMatch)).Nodup := by
    unfold List.Nodup; rw [List.pairwise_map]; exact hd.2
  have hlen : (((m : Int) :: c.fResults.map (·.fMatch))).length ≤ (T c).length := by
    refine nodup_le _ _ (List.nodup_cons.2 ⟨fun h => ?_, hnd⟩) fun x hx => ?_
    · obtain ⟨q, hq, e⟩ := List.mem_map.1 h; exact hno q hq e
    · rcases List.mem_cons.1 hx with rfl | hx
      · omega
      · obtain ⟨q, hq, rfl⟩ := List.mem_map.1 hx
        have := List.all_eq_true.1 hv.rght q hq
        simp only [rghtR, Bool.and_eq_true, inr_iff] at this
        omega
  simp only [List.length_cons, List.length_map] at hlen
  refine ⟨rfl, rfl, rfl, by simp; omega, fun q hq hne => ?_, fun q hq he => ?_, fun k hk => ?_, ⟨⟨(m : Int), [p], false⟩, ?_, by rw [hg]; rfl⟩, hdup⟩
  · rcases List.mem_append.1 hq with h | h
    · exact h
    · rw [List.mem_singleton.1 h] at hne; exact absurd rfl hne
  · rcases List.mem_append.1 hq with h | h
    · exact absurd he (hno q h)
    · rw [List.mem_singleton.1 h, hg]; rfl
  · unfold res
    rw [List.find?_append]
    cases e : c.fResults.find? (fun r => decide (r.fMatch = k)) with
    | some q => rfl
    | none =>
      have : ¬ (m : Int) = k := fun e' => hk e'.symm
      simp [this]
  · have := res_of_mem (c := ⟨c.fForm, c.fPlayers, c.fGames, c.fResults ++ [⟨(m : Int), [p], false⟩]⟩) hdup (r := ⟨(m : Int), [p], false⟩) (by simp)
    exact this
end Go.Proofs.Ytbceakhnnnfiaaa
