/-
  Two bowlers who always bowl alike.
-/
import Derived.Test.YtmencjafjcmbaaaPF
import Derived.Test.YtmencjafjcmbaaaDRateAlike
set_option linter.all false
namespace Go.Proofs.Ytmencjafjcmbaaa
open Go.Kp

def stA (A B : Int) (keep : Int → Bool) (l : List Ref07Sheet) (n : Int) : List Ref07Sheet :=
  if keep n then l ++ [⟨1 + (l.length : Int), 0, n, ⟨A, A, A⟩⟩] ++ [⟨1 + ((l ++ [(⟨1 + (l.length : Int), 0, n, ⟨A, A, A⟩⟩ : Ref07Sheet)]).length : Int), 1, n, ⟨B, B, B⟩⟩] else l
structure Alk (A B : Int) (l : List Ref07Sheet) : Prop where
  no : ∀ s ∈ l, 1 ≤ s.fNumber ∧ s.fNumber ≤ (l.length : Int)
  ob : ∀ s ∈ l, (s.fBowler = 0 ∧ s.fGames = ⟨A, A, A⟩) ∨ (s.fBowler = 1 ∧ s.fGames = ⟨B, B, B⟩)
  pw : l.Pairwise fun s t => s.fNumber < t.fNumber
theorem alk_add {A B : Int} {l : List Ref07Sheet} (h : Alk A B l) {n k : Int} {g : Ar3 Int} (hk : (k = 0 ∧ g = ⟨A, A, A⟩) ∨ (k = 1 ∧ g = ⟨B, B, B⟩)) : Alk A B (l ++ [⟨1 + (l.length : Int), k, n, g⟩]) := by
  refine ⟨fun s hs => ?_, fun s hs => ?_, ?_⟩
  · rw [List.length_append, List.length_singleton]
    rcases List.mem_append.1 hs with q | q
    · have := h.no s q; omega
    · rw [List.mem_singleton] at q; subst q; simp only; omega
  · rcases List.mem_append.1 hs with q | q
    · exact h.ob s q
    · rw [List.mem_singleton] at q; subst q; exact hk
  · rw [List.pairwise_append]
    refine ⟨h.pw, List.pairwise_singleton _ _, fun s hs t ht => ?_⟩
    rw [List.mem_singleton] at ht
    subst ht
    have := h.no s hs
    simp only; omega
theorem stA_fold {A B : Int} {keep : Int → Bool} : ∀ (ns : List Int) (l : List Ref07Sheet), Alk A B l → (∀ n ∈ ns, 1 ≤ n ∧ n ≤ 18) → (∀ s ∈ l, 1 ≤ s.fWeek ∧ s.fWeek ≤ 18) →
    Alk A B (ns.foldl (stA A B keep) l) ∧ (ns.foldl (stA A B keep) l).length ≤ l.length + 2 * ns.length ∧ (∀ s ∈ ns.foldl (stA A B keep) l, 1 ≤ s.fWeek ∧ s.fWeek ≤ 18) ∧ (∀ s ∈ l, s ∈ ns.foldl (stA A B keep) l) ∧
    (∀ n ∈ ns, keep n = true → ∀ k, k = 0 ∨ k = 1 → ∃ s ∈ ns.foldl (stA A B keep) l, s.fBowler = k ∧ s.fWeek = n)
  | [], l, h, _, hw => ⟨h, by simp, hw, fun s hs => hs, fun n hn => by simp at hn⟩
  | n :: ns, l, h, hn, hw => by
    rw [List.foldl_cons]
    have hn1 := hn n (by simp)
    by_cases q : keep n = true
    · have e : stA A B keep l n = l ++ [⟨1 + (l.length : Int), 0, n, ⟨A, A, A⟩⟩] ++ [⟨1 + ((l ++ [(⟨1 + (l.length : Int), 0, n, ⟨A, A, A⟩⟩ : Ref07Sheet)]).length : Int), 1, n, ⟨B, B, B⟩⟩] := by unfold stA; rw [if_pos q]
      rw [e]
      have h2 := alk_add (alk_add h (n := n) (.inl ⟨rfl, rfl⟩)) (n := n) (k := 1) (g := ⟨B, B, B⟩) (.inr ⟨rfl, rfl⟩)
      obtain ⟨b1, b2, b3, b4, b5⟩ := stA_fold (keep := keep) ns _ h2 (fun m hm => hn m (by simp [hm])) (fun s hs => by
        simp only [List.mem_append, List.mem_singleton] at hs
        rcases hs with (hs | hs) | hs
        · exact hw s hs
        · subst hs; exact hn1
        · subst hs; exact hn1)
      refine ⟨b1, ?_, b3, fun s hs => b4 s (by simp [hs]), fun m hm hk k hk2 => ?_⟩
      · simp only [List.length_append, List.length_cons, List.length_nil] at b2 ⊢; omega
      · rcases List.mem_cons.1 hm with e | e
        · subst e
          rcases hk2 with rfl | rfl
          · exact ⟨_, b4 ⟨1 + (l.length : Int), 0, m, ⟨A, A, A⟩⟩ (by simp), rfl, rfl⟩
          · exact ⟨_, b4 ⟨1 + ((l ++ [(⟨1 + (l.length : Int), 0, m, ⟨A, A, A⟩⟩ : Ref07Sheet)]).length : Int), 1, m, ⟨B, B, B⟩⟩ (by simp), rfl, rfl⟩
        · exact b5 m e hk k hk2
    · have e : stA A B keep l n = l := by unfold stA; rw [if_neg q]
      rw [e]
      obtain ⟨b1, b2, b3, b4, b5⟩ := stA_fold (keep := keep) ns l h (fun m hm => hn m (by simp [hm])) hw
      refine ⟨b1, ?_, b3, b4, fun m hm hk k hk2 => ?_⟩
      · simp only [List.length_cons]; omega
      · rcases List.mem_cons.1 hm with e | e
        · subst e; exact absurd hk q
        · exact b5 m e hk k hk2

def alb (b : Ref07Book) (A B : Int) (l : List Ref07Sheet) : Ref07Book := ⟨⟨300, 100, 300, b.fLaw.fLeast, b.fLaw.fBlind⟩, [A, B], l, []⟩
theorem alb_val {b : Ref07Book} (v : Val b) {A B : Int} (hA : 0 ≤ A ∧ A ≤ 300) (hB : 0 ≤ B ∧ B ≤ 300) {l : List Ref07Sheet} (h : Alk A B l) (hl : l.length ≤ 36) (hw : ∀ s ∈ l, 1 ≤ s.fWeek ∧ s.fWeek ≤ 18) : Val (alb b A B l) := by
  have hv := val_law v
  refine ⟨by show ([A, B] : List Int).length ≤ 8; simp, by show l.length ≤ 40; omega, by show ([] : List Int).length ≤ 40; simp, ?_, List.Pairwise.nil, fun n hn => ?_, fun n hn => ?_, fun s hs => ?_, fun s hs t ht e => ?_⟩
  · show lawOk ⟨300, 100, 300, b.fLaw.fLeast, b.fLaw.fBlind⟩ = true
    simp only [lawOk, Bool.and_eq_true]
    exact ⟨rfl, rfl, rfl, inr_iff.2 hv.2.2.2.1, inr_iff.2 hv.2.2.2.2⟩
  · have : n ∈ [A, B] := hn
    simp at this
    rcases this with rfl | rfl
    · exact hA
    · exact hB
  · have : n ∈ ([] : List Int) := hn
    simp at this
  · have hs' : s ∈ l := hs
    have h1 := h.no s hs'
    have h2 := hw s hs'
    have h3 := h.ob s hs'
    show sheetOk 2 s = true
    simp only [sheetOk, gamesOk, Bool.and_eq_true]
    rcases h3 with ⟨q1, q2⟩ | ⟨q1, q2⟩
    · rw [q1, q2]
      exact ⟨inr_iff.2 (by omega), inr_iff.2 (by omega), inr_iff.2 (by omega), inr_iff.2 hA, inr_iff.2 hA, inr_iff.2 hA⟩
    · rw [q1, q2]
      exact ⟨inr_iff.2 (by omega), inr_iff.2 (by omega), inr_iff.2 (by omega), inr_iff.2 hB, inr_iff.2 hB, inr_iff.2 hB⟩
  · have : ∀ {l : List Ref07Sheet}, l.Pairwise (fun s t => s.fNumber < t.fNumber) → ∀ s ∈ l, ∀ t ∈ l, s.fNumber = t.fNumber → s = t := by
      intro l hp
      induction hp with
      | nil => intro s hs; simp at hs
      | @cons x l hx _ ih =>
        intro s hs t ht e
        rcases List.mem_cons.1 hs with q | q <;> rcases List.mem_cons.1 ht with r | r
        · rw [q, r]
        · subst q; have := hx t r; omega
        · subst r; have := hx s q; omega
        · exact ih s q t r e
    exact this h.pw s hs t ht e
theorem alb_of {b : Ref07Book} {A B : Int} {l : List Ref07Sheet} (h : Alk A B l) {k w : Int} {s : Ref07Sheet} (ho : of (alb b A B l) k w = some s) {c : Int} (hc : (k = 0 ∧ c = A) ∨ (k = 1 ∧ c = B)) : s.fGames = ⟨c, c, c⟩ := by
  have hC := of_C ho
  have h1 := h.ob s hC.1
  have h2 := hC.2.1
  rcases hc with ⟨rfl, rfl⟩ | ⟨rfl, rfl⟩
  · rcases h1 with q | q
    · exact q.2
    · rw [q.1] at h2; omega
  · rcases h1 with q | q
    · rw [q.1] at h2; omega
    · exact q.2
theorem alb_tot {b : Ref07Book} {A B : Int} {l : List Ref07Sheet} (h : Alk A B l) {k c : Int} (hc : (k = 0 ∧ c = A) ∨ (k = 1 ∧ c = B)) : ∀ (ns : List Int) (a : Int × Int), a.2 = c * a.1 → (ns.foldl (accW (alb b A B l) k) a).2 = c * (ns.foldl (accW (alb b A B l) k) a).1
  | [], a, ha => ha
  | n :: ns, a, ha => by
    rw [List.foldl_cons]
    refine alb_tot h hc ns _ ?_
    unfold accW
    cases ho : of (alb b A B l) k n with
    | none => exact ha
    | some s =>
      have := alb_of h ho hc
      simp only [this, gsum, ha]
      rw [Int.mul_add]; omega
theorem alb_avg {b : Ref07Book} (v : Val b) {A B : Int} {l : List Ref07Sheet} (h : Alk A B l) {k c : Int} (hc : (k = 0 ∧ c = A) ∨ (k = 1 ∧ c = B)) (w : Int) : avg (alb b A B l) k w (0, 0) = c := by
  have ht := alb_tot (b := b) h hc (weeks (w - 1).toNat) (0, 0) (by simp)
  have hv := val_law v
  unfold avg
  split
  · unfold bow
    rcases hc with ⟨rfl, rfl⟩ | ⟨rfl, rfl⟩ <;> rfl
  · rename_i q
    have q' : ¬ (tot (alb b A B l) k w (0, 0)).1 < b.fLaw.fLeast := q
    have ht' : (tot (alb b A B l) k w (0, 0)).2 = c * (tot (alb b A B l) k w (0, 0)).1 := ht
    rw [ht', Int.mul_tdiv_cancel _ (by omega)]
theorem alb_made {b : Ref07Book} (v : Val b) {A B : Int} {l : List Ref07Sheet} (h : Alk A B l) {k c : Int} (hc : (k = 0 ∧ c = A) ∨ (k = 1 ∧ c = B)) (hcb : 0 ≤ c ∧ c ≤ 300) {w : Int} (ho : ∃ s ∈ l, s.fBowler = k ∧ s.fWeek = w) : made (alb b A B l) k w = ⟨300, 300, 300⟩ := by
  have hh : hcp (alb b A B l) k w = 300 - c := by
    unfold hcp
    rw [alb_avg v h hc]
    show min (max 0 (Int.tdiv ((300 - c) * 100) 100)) 300 = 300 - c
    rw [Int.mul_tdiv_cancel _ (by omega)]
    omega
  cases hof : of (alb b A B l) k w with
  | none =>
    have hB := of_isB (alb b A B l) k w
    rw [hof] at hB
    obtain ⟨s, h1, h2, h3⟩ := ho
    exact absurd ⟨h1, h2, h3, by show s.fNumber ∉ ([] : List Int); simp⟩ (hB s)
  | some s =>
    unfold made
    rw [hof]
    simp only [alb_of h hof hc, hh]
    have : c + (300 - c) = 300 := by omega
    rw [this]

section
variable {N : Nat} (hN : 4000 ≤ N)
include hN

theorem alike_loop (w A B bits : Int) :
    loopN (fun rec3 x => law07RateAlike_b2 N bits rec3 x.1 x.2.1 x.2.2.1 x.2.2.2) N (w, 1, [A, B], []) = some (w, [A, B], (weeks 18).foldl (stA A B fun n => decide (n = w) || !decide (Int.tmod (shrI .u32 bits n) 2 = 0)) []) := by
  have := loop_list (N := N) (B := fun rec3 x => law07RateAlike_b2 N bits rec3 x.1 x.2.1 x.2.2.1 x.2.2.2) (weeks 18) (fun i (l : List Ref07Sheet) => (w, (i : Int) + 1, [A, B], l)) (fun r l => some (w, [A, B], r.foldl (stA A B fun n => decide (n = w) || !decide (Int.tmod (shrI .u32 bits n) 2 = 0)) l)) (fun i l => l.length ≤ 2 * i)
    (fun l rec _ => by
      show law07RateAlike_b2 N bits rec w (((weeks 18).length : Int) + 1) [A, B] l = _
      unfold law07RateAlike_b2
      rw [weeks_len]
      rfl)
    (fun i x l rec hx hok h => by
      obtain ⟨ex, hlt⟩ := weeks_get hx
      subst ex
      show law07RateAlike_b2 N bits rec w ((i : Int) + 1) [A, B] l = _
      unfold law07RateAlike_b2
      rw [decide_eq_true (by omega)]
      have e1 : w64 ((i : Int) + 1 + 1) = ((i + 1 : Nat) : Int) + 1 := by rw [w64_id (by omega) (by omega)]; omega
      have e3 : Go.IntKind.wrap .u64 ((i : Int) + 1) = (i : Int) + 1 := wrap_u64 (by omega) (by omega)
      have e4 : nng ((i : Int) + 1) = some () := by unfold nng; rw [if_pos (by omega)]
      have hk1 : law07RateAlike_k1 N ((i : Int) + 1) [A, B] l = some (l ++ [⟨1 + (l.length : Int), 0, (i : Int) + 1, ⟨A, A, A⟩⟩] ++ [⟨1 + ((l ++ [(⟨1 + (l.length : Int), 0, (i : Int) + 1, ⟨A, A, A⟩⟩ : Ref07Sheet)]).length : Int), 1, (i : Int) + 1, ⟨B, B, B⟩⟩]) := by
        unfold law07RateAlike_k1
        have i0 : idx [A, B] 0 = some A := rfl
        have i1 : idx [A, B] 1 = some B := rfl
        rw [i0, i1, Option.bind_some, w64_id (by omega) (by omega), app_ok (by simp; omega), Option.bind_some, Option.bind_some, w64_id (by simp; omega) (by simp; omega), app_ok (by simp; omega)]
        rfl
      simp only [if_true, e1, e3, e4, Option.bind_some, List.foldl_cons, hk1]
      by_cases q1 : (i : Int) + 1 = w
      · have hst : stA A B (fun n => decide (n = w) || !decide (Int.tmod (shrI .u32 bits n) 2 = 0)) l ((i : Int) + 1) = l ++ [⟨1 + (l.length : Int), 0, (i : Int) + 1, ⟨A, A, A⟩⟩] ++ [⟨1 + ((l ++ [(⟨1 + (l.length : Int), 0, (i : Int) + 1, ⟨A, A, A⟩⟩ : Ref07Sheet)]).length : Int), 1, (i : Int) + 1, ⟨B, B, B⟩⟩] := by
          unfold stA; rw [if_pos (by show (decide _ || !decide _) = true; rw [decide_eq_true q1]; rfl)]
        rw [hst]
        simp only [decide_eq_true q1, Bool.not_true, Bool.false_eq_true, if_false, Option.bind_some]
        exact h _ (by simp; omega)
      · by_cases q2 : Int.tmod (shrI .u32 bits ((i : Int) + 1)) 2 = 0
        · have hst : stA A B (fun n => decide (n = w) || !decide (Int.tmod (shrI .u32 bits n) 2 = 0)) l ((i : Int) + 1) = l := by
            unfold stA; rw [if_neg (by show ¬ (decide _ || !decide _) = true; rw [decide_eq_false q1, decide_eq_true q2]; simp)]
          rw [hst]
          simp only [decide_eq_false q1, decide_eq_true q2, Bool.not_false, if_true, Option.bind_some]
          exact h _ (by omega)
        · have hst : stA A B (fun n => decide (n = w) || !decide (Int.tmod (shrI .u32 bits n) 2 = 0)) l ((i : Int) + 1) = l ++ [⟨1 + (l.length : Int), 0, (i : Int) + 1, ⟨A, A, A⟩⟩] ++ [⟨1 + ((l ++ [(⟨1 + (l.length : Int), 0, (i : Int) + 1, ⟨A, A, A⟩⟩ : Ref07Sheet)]).length : Int), 1, (i : Int) + 1, ⟨B, B, B⟩⟩] := by
            unfold stA; rw [if_pos (by show (decide _ || !decide _) = true; rw [decide_eq_false q1, decide_eq_false q2]; rfl)]
          rw [hst]
          simp only [decide_eq_false q1, decide_eq_false q2, Bool.not_false, if_true, Bool.false_eq_true, if_false, Option.bind_some]
          exact h _ (by simp; omega)) (by rw [weeks_len]; omega) [] (by simp)
  exact this

theorem alike_true (b : Ref07Book) (first second week bits : Int) (f1 : 0 ≤ first ∧ first ≤ 65535) (f2 : 0 ≤ second ∧ second ≤ 65535) (f3 : 0 ≤ week ∧ week ≤ 255) (f4 : 0 ≤ bits ∧ bits ≤ 4294967295) : law07RateAlike N b first second week bits = some true := by
  unfold law07RateAlike
  rw [ready_eq hN]
  simp only [Option.bind_some]
  by_cases hf : flt b = 0
  · have v := flt_zero.1 hf
    simp only [hf, decide_true, Bool.not_true, Bool.false_eq_true, if_false]
    have hA0 := tmod_bd (x := first) (n := 301) (by omega) (by omega)
    have hB0 := tmod_bd (x := second) (n := 301) (by omega) (by omega)
    have hw0 := tmod_bd (x := week) (n := 18) (by omega) (by omega)
    rw [w64_id (n := first) (by omega) (by omega), w64_id (n := second) (by omega) (by omega), w64_id (n := week) (by omega) (by omega), w64_id (n := 1 + Int.tmod week 18) (by omega) (by omega)]
    obtain ⟨w, ew⟩ : ∃ w, w = 1 + Int.tmod week 18 := ⟨_, rfl⟩
    rw [← ew]
    have hA : 0 ≤ Int.tmod first 301 ∧ Int.tmod first 301 ≤ 300 := by omega
    have hB : 0 ≤ Int.tmod second 301 ∧ Int.tmod second 301 ≤ 300 := by omega
    generalize Int.tmod first 301 = A at *
    generalize Int.tmod second 301 = B at *
    rw [alike_loop hN, Option.bind_some]
    obtain ⟨g1, g2, g3, _, g5⟩ := stA_fold (A := A) (B := B) (keep := fun n => decide (n = w) || !decide (Int.tmod (shrI .u32 bits n) 2 = 0)) (weeks 18) [] ⟨by simp, by simp, List.Pairwise.nil⟩ (fun n hn => by have := mem_weeks.1 hn; omega) (by simp)
    have g6 := g5 w (mem_weeks.2 (by omega)) (by simp)
    rw [weeks_len] at g2
    generalize (weeks 18).foldl (stA A B fun n => decide (n = w) || !decide (Int.tmod (shrI .u32 bits n) 2 = 0)) [] = l at *
    have hl : l.length ≤ 36 := by simpa using g2
    have vx := alb_val v hA hB g1 hl g3
    have e : (⟨⟨300, 100, 300, b.fLaw.fLeast, b.fLaw.fBlind⟩, [A, B], l, []⟩ : Ref07Book) = alb b A B l := rfl
    have x1 := vx.nb
    have x2 := vx.ns
    have x3 := vx.nw
    have hbk : law07Book N (alb b A B l) = some (cb (alb b A B l)) := book_eq hN _ (by omega) (by omega) (by omega)
    have hxf : flt (alb b A B l) = 0 := flt_zero.2 vx
    have hmer : mer (alb b A B l) w [0] [1] = 0 := by
      unfold mer
      rw [if_pos hxf, if_pos (inr_iff.2 (by omega))]
      rfl
    have hm : mtch (alb b A B l) w [0] [1] = (4, 4) := by
      unfold mtch team
      have m0 := alb_made v g1 (.inl ⟨rfl, rfl⟩) hA (g6 0 (.inl rfl))
      have m1 := alb_made v g1 (.inr ⟨rfl, rfl⟩) hB (g6 1 (.inr rfl))
      simp only [List.map_cons, List.map_nil, m0, m1]
      rfl
    simp only [e, hbk, Option.bind_some, match_eq hN (alb b A B l) (show (alb b A B l).fBowlers.length ≤ 1000 by omega), hmer, hm, if_true, decide_true, Bool.not_true, Bool.false_eq_true, if_false]
    have hin := loop_list0 (N := N) (B := fun rec5 x => law07RateAlike_b5 N b [A, B] l rec5 x) (weeks 30) (fun i => (i : Int) + 1) (fun _ => some true)
      (fun rec => by
        show law07RateAlike_b5 N b [A, B] l rec (((weeks 30).length : Int) + 1) = _
        unfold law07RateAlike_b5
        rw [weeks_len, decide_eq_false (by omega)]
        simp [law07RateAlike_k3, wakes_ok hN])
      (fun i x rec hx h => by
        obtain ⟨ex, hlt⟩ := weeks_get hx
        show law07RateAlike_b5 N b [A, B] l rec ((i : Int) + 1) = _
        unfold law07RateAlike_b5
        have e1 : w64 ((i : Int) + 1 + 1) = ((i + 1 : Nat) : Int) + 1 := by rw [w64_id (by omega) (by omega)]; omega
        have hb2 : (alb b A B l).fBowlers.length = 2 := rfl
        have a0 : ask (alb b A B l) 0 ((i : Int) + 1) = 0 := ask_zero.2 ⟨vx, by rw [hb2]; omega, by omega⟩
        have a1 : ask (alb b A B l) 1 ((i : Int) + 1) = 0 := ask_zero.2 ⟨vx, by rw [hb2]; omega, by omega⟩
        have i0 : idx [A, B] 0 = some A := rfl
        have i1 : idx [A, B] 1 = some B := rfl
        rw [decide_eq_true (by omega), e, hbk]
        simp only [if_true, Option.bind_some, average_eq hN (alb b A B l) (show (alb b A B l).fBowlers.length ≤ 1000 by omega), a0, a1, i0, i1, alb_avg v g1 (.inl ⟨rfl, rfl⟩), alb_avg v g1 (.inr ⟨rfl, rfl⟩), decide_true, Bool.not_true, Bool.false_eq_true, if_false]
        unfold law07RateAlike_k4
        rw [e1, h]) (by rw [weeks_len]; omega)
    exact hin
  · simp [hf, wakes_ok hN]
end
end Go.Proofs.Ytmencjafjcmbaaa
