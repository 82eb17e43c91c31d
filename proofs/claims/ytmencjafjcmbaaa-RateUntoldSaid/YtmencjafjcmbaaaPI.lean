/-
  Untold weeks.
-/
import Derived.Test.YtmencjafjcmbaaaPF
import Derived.Test.YtmencjafjcmbaaaDRateUntold
set_option linter.all false
namespace Go.Proofs.Ytmencjafjcmbaaa
open Go.Kp

/-! Numbers that are not taken. -/
def cge (L : List Int) (m : Int) : Nat := L.countP fun n => decide (m ≤ n)
theorem cge_mono (L : List Int) (m : Int) : cge L (m + 1) ≤ cge L m := List.countP_mono_left fun x _ h => by
  simp only [decide_eq_true_eq] at h ⊢; omega
theorem cge_step : ∀ {L : List Int} {m : Int}, m ∈ L → cge L (m + 1) < cge L m
  | x :: t, m, h => by
    unfold cge
    rw [List.countP_cons, List.countP_cons]
    have h1 : t.countP (fun n => decide (m + 1 ≤ n)) ≤ t.countP (fun n => decide (m ≤ n)) := cge_mono t m
    by_cases q : x = m
    · subst q
      rw [if_neg (by simp only [decide_eq_true_eq]; omega), if_pos (by simp)]
      omega
    · have hm : m ∈ t := by
        rcases List.mem_cons.1 h with e | e
        · exact absurd e.symm q
        · exact e
      have h2 : t.countP (fun n => decide (m + 1 ≤ n)) < t.countP (fun n => decide (m ≤ n)) := cge_step hm
      by_cases q1 : m + 1 ≤ x
      · rw [if_pos (by simpa using q1), if_pos (by simp only [decide_eq_true_eq]; omega)]; omega
      · rw [if_neg (by simpa using q1)]; split <;> omega
def nos (b : Ref07Book) : List Int := b.fWithdrawn ++ b.fSheets.map (·.fNumber)

/-! One more sheet. -/
def plus (b : Ref07Book) (s : Ref07Sheet) : Ref07Book := ⟨b.fLaw, b.fBowlers, b.fSheets ++ [s], b.fWithdrawn⟩
theorem plus_val {b : Ref07Book} (v : Val b) {s : Ref07Sheet} (hl : b.fSheets.length ≤ 39) (hn : s.fNumber ∉ nos b) (hs : sheetOk b.fBowlers.length s = true) : Val (plus b s) := by
  have hnew : ∀ t ∈ b.fSheets, t.fNumber ≠ s.fNumber := fun t ht e => hn (by unfold nos; rw [List.mem_append]; exact .inr (List.mem_map.2 ⟨t, ht, e⟩))
  refine ⟨v.nb, by show (b.fSheets ++ [s]).length ≤ 40; simp; omega, v.nw, v.law, v.ris, v.bow, v.wd, fun t ht => ?_, fun t ht u hu e => ?_⟩
  · rcases List.mem_append.1 ht with h | h
    · exact v.sh t h
    · rw [List.mem_singleton] at h; subst h; exact hs
  · rcases List.mem_append.1 ht with h | h <;> rcases List.mem_append.1 hu with h' | h'
    · exact v.once t h u h' e
    · rw [List.mem_singleton] at h'; subst h'; exact absurd e (hnew t h)
    · rw [List.mem_singleton] at h; subst h; exact absurd e.symm (hnew u h')
    · rw [List.mem_singleton] at h h'; rw [h, h']
theorem plus_C {b : Ref07Book} {s t : Ref07Sheet} {k w : Int} : C (plus b s) k w t ↔ C b k w t ∨ (t = s ∧ s.fBowler = k ∧ s.fWeek = w ∧ s.fNumber ∉ b.fWithdrawn) := by
  unfold C
  show (t ∈ b.fSheets ++ [s] ∧ _) ↔ _
  rw [List.mem_append, List.mem_singleton]
  constructor
  · rintro ⟨h | h, h2⟩
    · exact .inl ⟨h, h2⟩
    · subst h; exact .inr ⟨rfl, h2⟩
  · rintro (h | ⟨rfl, h⟩)
    · exact ⟨.inl h.1, h.2⟩
    · exact ⟨.inr rfl, h⟩
theorem plus_of {b : Ref07Book} {s : Ref07Sheet} (v : Val (plus b s)) {k w : Int} (hne : s.fBowler ≠ k ∨ s.fWeek ≠ w) : of (plus b s) k w = of b k w :=
  of_eq v.once ((of_isB b k w).congr fun t => by
    rw [plus_C]
    constructor
    · exact .inl
    · rintro (h | ⟨_, h1, h2, _⟩)
      · exact h
      · rcases hne with q | q
        · exact absurd h1 q
        · exact absurd h2 q)
theorem plus_of_self {b : Ref07Book} {s : Ref07Sheet} (v : Val (plus b s)) (hw : s.fNumber ∉ b.fWithdrawn) (ho : of b s.fBowler s.fWeek = none) : of (plus b s) s.fBowler s.fWeek = some s := by
  have hB := of_isB b s.fBowler s.fWeek
  rw [ho] at hB
  refine of_eq v.once ⟨plus_C.2 (.inr ⟨rfl, rfl, rfl, hw⟩), fun t ht => ?_⟩
  rcases plus_C.1 ht with h | h
  · exact absurd h (hB t)
  · rw [h.1]; exact Int.le_refl _

theorem accW_shift (b : Ref07Book) (k : Int) (a : Int × Int) (p q : Int) (w : Int) : accW b k (a.1 + p, a.2 + q) w = ((accW b k a w).1 + p, (accW b k a w).2 + q) := by
  unfold accW
  cases of b k w with
  | none => rfl
  | some s => simp only; congr 1 <;> omega
theorem fold_shift (b : Ref07Book) (k : Int) (p q : Int) : ∀ (l : List Int) (a : Int × Int), l.foldl (accW b k) (a.1 + p, a.2 + q) = ((l.foldl (accW b k) a).1 + p, (l.foldl (accW b k) a).2 + q)
  | [], _ => rfl
  | w :: l, a => by rw [List.foldl_cons, List.foldl_cons, accW_shift, fold_shift b k p q l]
theorem tot_shift (b : Ref07Book) (k w p q : Int) : tot b k w (p, q) = ((tot b k w (0, 0)).1 + p, (tot b k w (0, 0)).2 + q) := by
  have := fold_shift b k p q (weeks (w - 1).toNat) (0, 0)
  rw [Int.zero_add, Int.zero_add] at this
  exact this
theorem fold_point {x b : Ref07Book} {k u : Int} {s : Ref07Sheet} (h1 : ∀ v, v ≠ u → of x k v = of b k v) (h2 : of x k u = some s) (h3 : of b k u = none) : ∀ (l : List Int) (a : Int × Int), l.Nodup → u ∈ l →
    l.foldl (accW x k) a = l.foldl (accW b k) (a.1 + 3, a.2 + gsum s.fGames)
  | w :: l, a, hn, hu => by
    rw [List.foldl_cons, List.foldl_cons]
    rw [List.nodup_cons] at hn
    by_cases q : w = u
    · subst q
      have e1 : accW x k a w = (a.1 + 3, a.2 + gsum s.fGames) := by unfold accW; rw [h2]
      have e2 : ∀ a', accW b k a' w = a' := by intro a'; unfold accW; rw [h3]
      rw [e1, e2]
      exact fold_congr l _ fun v hv => h1 v (fun e => hn.1 (e ▸ hv))
    · have hm : u ∈ l := by
        rcases List.mem_cons.1 hu with e | e
        · exact absurd e.symm q
        · exact e
      rw [accW_congr (h1 w q), accW_shift]
      exact fold_point h1 h2 h3 l _ hn.2 hm
theorem weeks_nodup (n : Nat) : (weeks n).Nodup := by
  unfold weeks
  rw [List.nodup_iff_pairwise_ne, List.pairwise_map]
  exact (List.nodup_range (n := n)).imp fun h e => h (by omega)

/-! Many more sheets. -/
def sumG : List (Int × Ar3 Int) → Int
  | [] => 0
  | p :: r => gsum p.2 + sumG r
inductive Fill (k : Int) : Ref07Book → List (Int × Ar3 Int) → Ref07Book → Prop
  | nil (b : Ref07Book) : Fill k b [] b
  | cons {b b' : Ref07Book} {n u : Int} {g : Ar3 Int} {r : List (Int × Ar3 Int)} : n ∉ nos b → 1 ≤ n → n ≤ 999 → Fill k (plus b ⟨n, k, u, g⟩) r b' → Fill k b ((u, g) :: r) b'
theorem fill_avg {k w : Int} : ∀ {b b' : Ref07Book} {ps : List (Int × Ar3 Int)}, Fill k b ps b' → Val b → b.fSheets.length + ps.length ≤ 40 → (0 ≤ k ∧ k ≤ (b.fBowlers.length : Int) - 1) → w ≤ 30 →
    (∀ p ∈ ps, (1 ≤ p.1 ∧ p.1 < w) ∧ of b k p.1 = none ∧ gamesOk p.2 = true) → (ps.map Prod.fst).Nodup →
    Val b' ∧ b'.fLaw = b.fLaw ∧ b'.fBowlers = b.fBowlers ∧ tot b' k w (0, 0) = tot b k w (3 * (ps.length : Int), sumG ps) := by
  intro b b' ps h
  induction h with
  | nil b => intro v _ _ _ _ _; exact ⟨v, rfl, rfl, rfl⟩
  | @cons b b' n u g r hn h1 h9 hf ih =>
    intro v hl hk hw hp hd
    obtain ⟨hu, ho, hg⟩ := hp (u, g) (by simp)
    rw [List.length_cons] at hl
    rw [List.map_cons, List.nodup_cons] at hd
    have v' : Val (plus b ⟨n, k, u, g⟩) := plus_val v (by omega) hn (by
      simp only [sheetOk, Bool.and_eq_true]
      exact ⟨inr_iff.2 ⟨h1, h9⟩, inr_iff.2 hk, inr_iff.2 ⟨by simp only at hu; omega, by simp only at hu; omega⟩, hg⟩)
    have hwn : n ∉ b.fWithdrawn := fun h => hn (by unfold nos; rw [List.mem_append]; exact .inl h)
    obtain ⟨a1, a2, a3, a4⟩ := ih v' (by show (b.fSheets ++ [_]).length + _ ≤ _; simp; omega) hk hw (fun p hp' => by
      obtain ⟨c1, c2, c3⟩ := hp p (by simp [hp'])
      refine ⟨c1, ?_, c3⟩
      rw [plus_of v' (.inr fun e => hd.1 (List.mem_map.2 ⟨p, hp', e.symm⟩))]
      exact c2) hd.2
    refine ⟨a1, a2, a3, ?_⟩
    rw [a4]
    have hpt := fold_point (x := plus b ⟨n, k, u, g⟩) (b := b) (k := k) (u := u) (s := ⟨n, k, u, g⟩) (fun v hv => plus_of v' (.inr fun e => hv e.symm)) (plus_of_self v' hwn ho) ho (weeks (w - 1).toNat) (3 * (r.length : Int), sumG r) (weeks_nodup _) (mem_weeks.2 ⟨hu.1, by have := hu.2; simp only at this; omega⟩)
    refine Eq.trans hpt ?_
    show tot b k w _ = _
    congr 1
    refine Prod.ext ?_ ?_
    · show 3 * (r.length : Int) + 3 = 3 * (((u, g) :: r).length : Int)
      rw [List.length_cons]; omega
    · show sumG r + gsum g = gsum g + sumG r; omega
theorem sumG_bd : ∀ (ps : List (Int × Ar3 Int)), (∀ p ∈ ps, gamesOk p.2 = true) → 0 ≤ sumG ps ∧ sumG ps ≤ 900 * (ps.length : Int)
  | [], _ => by simp [sumG]
  | p :: r, h => by
    have h1 := sumG_bd r fun q hq => h q (by simp [hq])
    have h2 := h p (by simp)
    simp only [gamesOk, Bool.and_eq_true, inr_iff] at h2
    simp only [sumG, gsum, List.length_cons]
    omega
theorem sumG_const (g : Ar3 Int) (ws : List Int) : sumG (ws.map fun u => (u, g)) = gsum g * (ws.length : Int) := by
  induction ws with
  | nil => simp [sumG]
  | cons u r ih => rw [List.map_cons]; simp only [sumG, ih, List.length_cons]; rw [show ((r.length + 1 : Nat) : Int) = (r.length : Int) + 1 by omega, Int.mul_add]; omega
theorem avg_mono {b : Ref07Book} (v : Val b) {k w n p q : Int} (hw : w ≤ 30) (hn : 0 ≤ n ∧ n ≤ 100) (h0 : 0 ≤ p) (h : p ≤ q) : avg b k w (n, p) ≤ avg b k w (n, q) := by
  unfold avg
  have e1 := tot_shift b k w n p
  have e2 := tot_shift b k w n q
  have hb := tot_bd (k := k) v hw (bd0 (n := 0) (by omega))
  have hl := val_law v
  obtain ⟨b1, b2, b3, b4⟩ := hb
  rw [e1, e2]
  simp only
  split
  · exact Int.le_refl _
  · rw [Int.tdiv_eq_ediv_of_nonneg (by omega), Int.tdiv_eq_ediv_of_nonneg (by omega)]
    exact Int.ediv_le_ediv (by omega) (by omega)
theorem avg_few {b : Ref07Book} {k w n p q : Int} (h : (tot b k w (0, 0)).1 + n < b.fLaw.fLeast) : avg b k w (n, p) = avg b k w (n, q) := by
  unfold avg
  rw [tot_shift b k w n p, tot_shift b k w n q]
  simp only
  rw [if_pos h, if_pos h]
theorem avg_tot {a b : Ref07Book} (hl : a.fLaw = b.fLaw) (hb : a.fBowlers = b.fBowlers) {k w : Int} {x y : Int × Int} (h : tot a k w x = tot b k w y) : avg a k w x = avg b k w y := by
  unfold avg bow; rw [h, hl, hb]

/-! The weeks that are left out. -/
def stU (b : Ref07Book) (k : Int) (bit : Int → Bool) (a : Int × List Int) (u : Int) : Int × List Int :=
  match of b k u with
  | some _ => (a.1 + 3, a.2)
  | none => if a.2.length < 5 ∧ bit u = true then (a.1, a.2 ++ [u]) else a
theorem stU_fold (b : Ref07Book) (k : Int) (bit : Int → Bool) : ∀ (l : List Int) (a : Int × List Int) (z : Int × Int), a.1 = z.1 → a.2.length ≤ 5 → (a.2 ++ l).Pairwise (· < ·) → (∀ u ∈ a.2, of b k u = none) → (l.foldl (stU b k bit) a).1 = (l.foldl (accW b k) z).1 ∧ (l.foldl (stU b k bit) a).2.length ≤ 5 ∧
    (l.foldl (stU b k bit) a).2.Pairwise (· < ·) ∧ (∀ u ∈ (l.foldl (stU b k bit) a).2, (u ∈ a.2 ∨ u ∈ l) ∧ of b k u = none)
  | [], a, z, h1, h2, h3, h4 => ⟨h1, h2, by simpa using h3, fun u hu => ⟨.inl hu, h4 u hu⟩⟩
  | w :: l, a, z, h1, h2, h3, h4 => by
    rw [List.foldl_cons, List.foldl_cons]
    have hsub : (a.2 ++ l).Pairwise (· < ·) := h3.sublist ((List.Sublist.refl _).append (List.sublist_cons_self _ _))
    cases ho : of b k w with
    | some s =>
      have e1 : stU b k bit a w = (a.1 + 3, a.2) := by unfold stU; rw [ho]
      have e2 : accW b k z w = (z.1 + 3, z.2 + gsum s.fGames) := by unfold accW; rw [ho]
      rw [e1, e2]
      have := stU_fold b k bit l (a.1 + 3, a.2) (z.1 + 3, z.2 + gsum s.fGames) (by simp only; omega) h2 hsub h4
      refine ⟨this.1, this.2.1, this.2.2.1, fun u hu => ⟨?_, (this.2.2.2 u hu).2⟩⟩
      rcases (this.2.2.2 u hu).1 with h | h
      · exact .inl h
      · exact .inr (by simp [h])
    | none =>
      have e2 : accW b k z w = z := by unfold accW; rw [ho]
      rw [e2]
      by_cases q : a.2.length < 5 ∧ bit w = true
      · have e1 : stU b k bit a w = (a.1, a.2 ++ [w]) := by unfold stU; rw [ho]; simp only; rw [if_pos q]
        rw [e1]
        have := stU_fold b k bit l (a.1, a.2 ++ [w]) z h1 (by simp; omega) (by simpa using h3) (fun u hu => by
          rcases List.mem_append.1 hu with h | h
          · exact h4 u h
          · rw [List.mem_singleton] at h; rw [h]; exact ho)
        refine ⟨this.1, this.2.1, this.2.2.1, fun u hu => ⟨?_, (this.2.2.2 u hu).2⟩⟩
        rcases (this.2.2.2 u hu).1 with h | h
        · rcases List.mem_append.1 h with h | h
          · exact .inl h
          · exact .inr (by simp at h; simp [h])
        · exact .inr (by simp [h])
      · have e1 : stU b k bit a w = a := by unfold stU; rw [ho]; simp only; rw [if_neg q]
        rw [e1]
        have := stU_fold b k bit l a z h1 h2 hsub h4
        refine ⟨this.1, this.2.1, this.2.2.1, fun u hu => ⟨?_, (this.2.2.2 u hu).2⟩⟩
        rcases (this.2.2.2 u hu).1 with h | h
        · exact .inl h
        · exact .inr (by simp [h])

section
variable {N : Nat} (hN : 4000 ≤ N)
include hN

theorem taken_eq (b : Ref07Book) (h : b.fSheets.length ≤ 1000) (n : Int) : law07Taken N b n = some (decide (n ∈ b.fSheets.map (·.fNumber))) := by
  unfold law07Taken
  have := loop_list0 (N := N) (B := fun rec3 x => law07Taken_b2 N b n rec3 x) b.fSheets (fun i => (i : Int)) (fun r => some (decide (n ∈ r.map (·.fNumber))))
    (fun rec => by
      show law07Taken_b2 N b n rec (b.fSheets.length : Int) = _
      unfold law07Taken_b2
      rw [decide_eq_false (by omega)]
      simp [law07Taken_k1])
    (fun i x rec hx h => by
      have hlt := len_lt hx
      show law07Taken_b2 N b n rec (i : Int) = _
      unfold law07Taken_b2
      simp only [show ((i : Int) < (b.fSheets.length : Int)) from by omega, decide_true, if_true, idx_at hx, Option.bind_some, w64_succ (i := i) (by omega), h, List.map_cons, List.mem_cons]
      by_cases q : x.fNumber = n
      · simp [q]
      · have q' : ¬ n = x.fNumber := fun e => q e.symm
        simp [q, q']) (by omega)
  exact this

theorem search_ex (b : Ref07Book) (h1 : b.fSheets.length ≤ 1000) (h2 : b.fWithdrawn.length ≤ 1000) : ∀ (n : Nat) (m : Int), cge (nos b) m < n → 0 ≤ m → m + cge (nos b) m ≤ 100000 →
    ∃ r, loopN (fun rec x => law07RateUntold_b3 N b rec x) n m = some r ∧ m ≤ r ∧ r ≤ m + cge (nos b) m ∧ r ∉ nos b
  | 0, m, h, _, _ => absurd h (Nat.not_lt_zero _)
  | n + 1, m, h, h0, hm => by
    have hstep : loopN (fun rec x => law07RateUntold_b3 N b rec x) (n + 1) m = if m ∈ nos b then loopN (fun rec x => law07RateUntold_b3 N b rec x) n (w64 (m + 1)) else some m := by
      show law07RateUntold_b3 N b (loopN (fun rec x => law07RateUntold_b3 N b rec x) n) m = _
      unfold law07RateUntold_b3
      rw [has_eq hN _ _ h2, taken_eq hN b h1]
      simp only [Option.bind_some, nos, List.mem_append]
      by_cases q1 : m ∈ b.fWithdrawn
      · simp [q1]
      · by_cases q2 : m ∈ b.fSheets.map (·.fNumber)
        · simp only [decide_eq_false q1, decide_eq_true q2, Bool.false_eq_true, if_false, if_true, Option.bind_some]
          rw [if_pos (.inr q2)]
        · simp only [decide_eq_false q1, decide_eq_false q2, Bool.false_eq_true, if_false, Option.bind_some]
          rw [if_neg (by rintro (h | h); exact q1 h; exact q2 h)]
    by_cases q : m ∈ nos b
    · rw [if_pos q] at hstep
      have hc := cge_step q
      have e : w64 (m + 1) = m + 1 := w64_id (by omega) (by omega)
      obtain ⟨r, r1, r2, r3, r4⟩ := search_ex b h1 h2 n (m + 1) (by omega) (by omega) (by omega)
      rw [e] at hstep
      exact ⟨r, hstep.trans r1, by omega, by omega, r4⟩
    · rw [if_neg q] at hstep
      exact ⟨m, hstep, Int.le_refl _, by omega, q⟩

theorem fill_ex (b : Ref07Book) (h1 : b.fSheets.length ≤ 40) (h2 : b.fWithdrawn.length ≤ 40) (k : Int) (ps : List (Int × Ar3 Int)) (hp : ps.length ≤ 5) {B : (Int × Int × List Ref07Sheet → Option (List Ref07Sheet)) → Int × Int × List Ref07Sheet → Option (List Ref07Sheet)}
    (hB0 : ∀ rec m x, B rec (m, (ps.length : Int), x) = some x)
    (hB1 : ∀ rec m (i : Nat) x u g, ps[i]? = some (u, g) → x.length ≤ 100 → B rec (m, (i : Int), x) = Option.bind (loopN (fun rec x => law07RateUntold_b3 N b rec x) N (w64 (m + 1))) fun n => rec (n, w64 ((i : Int) + 1), x ++ [⟨n, k, u, g⟩])) :
    ∀ (fuel i : Nat) (m : Int) (x : List Ref07Sheet), ps.length - i < fuel → i ≤ ps.length → 0 ≤ m → m ≤ 81 * (i : Int) → x.length ≤ 40 + i → (∀ s ∈ x, s.fNumber ∈ nos b ∨ s.fNumber ≤ m) →
      ∃ l, loopN B fuel (m, (i : Int), x) = some l ∧ Fill k ⟨b.fLaw, b.fBowlers, x, b.fWithdrawn⟩ (ps.drop i) ⟨b.fLaw, b.fBowlers, l, b.fWithdrawn⟩
  | 0, i, m, x, h, _, _, _, _, _ => absurd h (Nat.not_lt_zero _)
  | fuel + 1, i, m, x, h, hi, h0, hm, hx, hs => by
    show ∃ l, B (loopN B fuel) (m, (i : Int), x) = some l ∧ _
    by_cases q : i = ps.length
    · subst q
      exact ⟨x, hB0 _ _ _, by rw [List.drop_length]; exact .nil _⟩
    · obtain ⟨⟨u, g⟩, hg⟩ : ∃ p, ps[i]? = some p := ⟨ps[i]'(by omega), List.getElem?_eq_getElem (by omega)⟩
      rw [hB1 _ m i x u g hg (by omega), w64_id (n := m + 1) (by omega) (by omega), w64_succ (i := i) (by omega)]
      have hc : cge (nos b) (m + 1) ≤ 80 := by
        refine Nat.le_trans List.countP_le_length ?_
        unfold nos
        rw [List.length_append, List.length_map]; omega
      obtain ⟨r, r1, r2, r3, r4⟩ := search_ex hN b (by omega) (by omega) N (m + 1) (by omega) (by omega) (by omega)
      rw [r1, Option.bind_some]
      obtain ⟨l, l1, l2⟩ := fill_ex b h1 h2 k ps hp hB0 hB1 fuel (i + 1) r (x ++ [⟨r, k, u, g⟩]) (by omega) (by omega) (by omega) (by omega) (by simp; omega) (fun s hs' => by
        rcases List.mem_append.1 hs' with h | h
        · rcases hs s h with h | h
          · exact .inl h
          · exact .inr (by omega)
        · rw [List.mem_singleton] at h; rw [h]; exact .inr (Int.le_refl _))
      refine ⟨l, l1, ?_⟩
      have hd : ps.drop i = (u, g) :: ps.drop (i + 1) := by
        rw [List.drop_eq_getElem_cons (by omega)]
        have := (List.getElem?_eq_some_iff.1 hg).2
        rw [this]
      rw [hd]
      refine .cons ?_ (by omega) (by omega) l2
      unfold nos
      simp only [List.mem_append, not_or]
      have r4' := r4
      unfold nos at r4'
      simp only [List.mem_append, not_or] at r4'
      refine ⟨r4'.1, fun hmem => ?_⟩
      obtain ⟨s, hs1, hs2⟩ := List.mem_map.1 hmem
      rcases hs s hs1 with h | h
      · rw [hs2] at h; exact r4 h
      · omega
end
end Go.Proofs.Ytmencjafjcmbaaa
