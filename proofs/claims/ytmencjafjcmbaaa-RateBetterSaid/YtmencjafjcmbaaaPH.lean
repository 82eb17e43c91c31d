/-
  Withdrawn sheets; better games.
-/
import Derived.Test.YtmencjafjcmbaaaPG
import Derived.Test.YtmencjafjcmbaaaDRateWithdrawn
import Derived.Test.YtmencjafjcmbaaaDRateBetter
set_option linter.all false
namespace Go.Proofs.Ytmencjafjcmbaaa
open Go.Kp

/-- without the sheets of a number -/
def less (b : Ref07Book) (s : Ref07Sheet) : Ref07Book := ⟨b.fLaw, b.fBowlers, b.fSheets.filter fun t => !decide (t.fNumber = s.fNumber), b.fWithdrawn⟩
/-- with a number withdrawn -/
def wdl (b : Ref07Book) (s : Ref07Sheet) : List Int := nums.filter fun n => decide (n = s.fNumber) || decide (n ∈ b.fWithdrawn)
def more (b : Ref07Book) (s : Ref07Sheet) : Ref07Book := ⟨b.fLaw, b.fBowlers, b.fSheets, wdl b s⟩

theorem less_val {b : Ref07Book} (v : Val b) (s : Ref07Sheet) : Val (less b s) :=
  val_sheets v (Nat.le_trans (List.length_filter_le _ _) v.ns) fun t ht => (List.mem_filter.1 ht).1
theorem mem_wdl {b : Ref07Book} (v : Val b) {s : Ref07Sheet} (hs : s ∈ b.fSheets) {n : Int} : n ∈ wdl b s ↔ n = s.fNumber ∨ n ∈ b.fWithdrawn := by
  unfold wdl
  rw [List.mem_filter, mem_nums, Bool.or_eq_true, decide_eq_true_eq, decide_eq_true_eq]
  constructor
  · exact fun h => h.2
  · rintro (rfl | h)
    · exact ⟨(val_sheet v hs).1, .inl rfl⟩
    · exact ⟨v.wd n h, .inr h⟩
theorem wdl_len {b : Ref07Book} (v : Val b) {s : Ref07Sheet} (hs : s ∈ b.fSheets) (hn : s.fNumber ∉ b.fWithdrawn) : (wdl b s).length = b.fWithdrawn.length + 1 := by
  have h1 : (wdl b s).Nodup := by
    have h0 : (wdl b s).Pairwise (· < ·) := by unfold wdl; exact nums_pw.filter _
    exact h0.imp fun h => by omega
  have h2 : (s.fNumber :: b.fWithdrawn).Nodup := List.nodup_cons.2 ⟨hn, v.ris.imp fun h => by omega⟩
  have := ((List.perm_ext_iff_of_nodup h1 h2).2 fun n => by rw [mem_wdl v hs, List.mem_cons]).length_eq
  simpa using this
theorem wdl_pw (b : Ref07Book) (s : Ref07Sheet) : (wdl b s).Pairwise (· < ·) := by unfold wdl; exact nums_pw.filter _
theorem wdl_eq (b : Ref07Book) (s : Ref07Sheet) : nums.filter (fun n => decide (n = s.fNumber) || decide (n ∈ b.fWithdrawn)) = wdl b s := rfl
attribute [irreducible] wdl
theorem more_val {b : Ref07Book} (v : Val b) {s : Ref07Sheet} (hs : s ∈ b.fSheets) (hn : s.fNumber ∉ b.fWithdrawn) (hl : b.fWithdrawn.length ≤ 39) : Val (more b s) :=
  ⟨v.nb, v.ns, by show (wdl b s).length ≤ 40; rw [wdl_len v hs hn]; omega, v.law, wdl_pw b s, v.bow, fun n hn' => by
    rcases (mem_wdl v hs).1 (show n ∈ wdl b s from hn') with h | h
    · rw [h]; exact (val_sheet v hs).1
    · exact v.wd n h, v.sh, v.once⟩
theorem less_more {b : Ref07Book} (v : Val b) {s : Ref07Sheet} (hs : s ∈ b.fSheets) (k w : Int) : of (less b s) k w = of (more b s) k w := by
  refine (of_eq (b := more b s) v.once ((of_isB (less b s) k w).congr fun t => ?_)).symm
  unfold C
  show (t ∈ b.fSheets.filter (fun t => !decide (t.fNumber = s.fNumber)) ∧ t.fBowler = k ∧ t.fWeek = w ∧ t.fNumber ∉ b.fWithdrawn) ↔ (t ∈ b.fSheets ∧ t.fBowler = k ∧ t.fWeek = w ∧ t.fNumber ∉ wdl b s)
  rw [mem_wdl v hs, List.mem_filter]
  simp only [Bool.not_eq_true', decide_eq_false_iff_not, not_or]
  constructor
  · rintro ⟨⟨h1, h2⟩, h3, h4, h5⟩; exact ⟨h1, h3, h4, h2, h5⟩
  · rintro ⟨h1, h3, h4, h2, h5⟩; exact ⟨⟨h1, h2⟩, h3, h4, h5⟩
theorem less_same {b : Ref07Book} (v : Val b) {s : Ref07Sheet} (hs : s ∈ b.fSheets) (hc : counts b s = false) (k w : Int) : of (less b s) k w = of b k w := by
  refine of_eq (less_val v s).once ?_
  have hB := of_isB b k w
  cases ho : of b k w with
  | none =>
    rw [ho] at hB
    exact fun t ht => hB t ⟨(List.mem_filter.1 ht.1).1, ht.2⟩
  | some t =>
    rw [ho] at hB
    refine ⟨⟨List.mem_filter.2 ⟨hB.1.1, ?_⟩, hB.1.2⟩, fun u hu => hB.2 u ⟨(List.mem_filter.1 hu.1).1, hu.2⟩⟩
    simp only [Bool.not_eq_true', decide_eq_false_iff_not]
    intro e
    have := v.once t hB.1.1 s hs e
    subst this
    have h2 : counts b t = true := (counts_iff v.once hs).2 (by rw [hB.1.2.1, hB.1.2.2.1]; exact ho)
    rw [h2] at hc; cases hc

/-! A better game. -/
def bet (g : Int) (s : Ref07Sheet) (by1 : Int) : Ar3 Int :=
  if g = 0 then ⟨min 300 (s.fGames.a0 + by1), s.fGames.a1, s.fGames.a2⟩ else if g = 1 then ⟨s.fGames.a0, min 300 (s.fGames.a1 + by1), s.fGames.a2⟩ else ⟨s.fGames.a0, s.fGames.a1, min 300 (s.fGames.a2 + by1)⟩
def upd (g by1 : Int) (s t : Ref07Sheet) : Ref07Sheet := if t.fNumber = s.fNumber then ⟨s.fNumber, s.fBowler, s.fWeek, bet g s by1⟩ else t
def betb (b : Ref07Book) (g by1 : Int) (s : Ref07Sheet) : Ref07Book := ⟨b.fLaw, b.fBowlers, b.fSheets.map (upd g by1 s), b.fWithdrawn⟩

theorem upd_same {b : Ref07Book} (v : Val b) {g by1 : Int} {s t : Ref07Sheet} (hs : s ∈ b.fSheets) (ht : t ∈ b.fSheets) : (upd g by1 s t).fNumber = t.fNumber ∧ (upd g by1 s t).fBowler = t.fBowler ∧ (upd g by1 s t).fWeek = t.fWeek := by
  unfold upd
  split
  · rename_i h
    have := v.once t ht s hs h
    subst this
    exact ⟨rfl, rfl, rfl⟩
  · exact ⟨rfl, rfl, rfl⟩
theorem bet_bd {b : Ref07Book} (v : Val b) {g by1 : Int} {s : Ref07Sheet} (hs : s ∈ b.fSheets) (hb : 0 ≤ by1) : gamesOk (bet g s by1) = true ∧ (s.fGames.a0 ≤ (bet g s by1).a0 ∧ s.fGames.a1 ≤ (bet g s by1).a1 ∧ s.fGames.a2 ≤ (bet g s by1).a2) := by
  have := val_sheet v hs
  unfold bet gamesOk
  simp only [Bool.and_eq_true, inr_iff]
  split
  · simp only; omega
  · split <;> (simp only; omega)
theorem betb_val {b : Ref07Book} (v : Val b) {g by1 : Int} {s : Ref07Sheet} (hs : s ∈ b.fSheets) (hb : 0 ≤ by1) : Val (betb b g by1 s) := by
  refine ⟨v.nb, by show (b.fSheets.map _).length ≤ 40; rw [List.length_map]; exact v.ns, v.nw, v.law, v.ris, v.bow, v.wd, fun t ht => ?_, fun t ht u hu e => ?_⟩
  · obtain ⟨t0, h0, rfl⟩ := List.mem_map.1 ht
    have h1 := v.sh t0 h0
    unfold upd
    split
    · have h2 := v.sh s hs
      simp only [sheetOk, Bool.and_eq_true] at h2 ⊢
      exact ⟨h2.1, h2.2.1, h2.2.2.1, (bet_bd v hs hb).1⟩
    · exact h1
  · obtain ⟨t0, h0, rfl⟩ := List.mem_map.1 ht
    obtain ⟨u0, h1, rfl⟩ := List.mem_map.1 hu
    rw [(upd_same v hs h0).1, (upd_same v hs h1).1] at e
    rw [v.once t0 h0 u0 h1 e]
theorem betb_of {b : Ref07Book} (v : Val b) {g by1 : Int} {s : Ref07Sheet} (hs : s ∈ b.fSheets) (hb : 0 ≤ by1) (k w : Int) : of (betb b g by1 s) k w = (of b k w).map (upd g by1 s) := by
  refine of_eq (betb_val v hs hb).once ?_
  have hC : ∀ t, C (betb b g by1 s) k w t ↔ ∃ u, C b k w u ∧ t = upd g by1 s u := by
    intro t
    unfold C
    show (t ∈ b.fSheets.map (upd g by1 s) ∧ _) ↔ _
    rw [List.mem_map]
    constructor
    · rintro ⟨⟨u, hu, rfl⟩, h1, h2, h3⟩
      have := upd_same (g := g) (by1 := by1) v hs hu
      exact ⟨u, ⟨hu, by rw [← this.2.1]; exact h1, by rw [← this.2.2]; exact h2, by rw [← this.1]; exact h3⟩, rfl⟩
    · rintro ⟨u, ⟨hu, h1, h2, h3⟩, rfl⟩
      have := upd_same (g := g) (by1 := by1) v hs hu
      exact ⟨⟨u, hu, rfl⟩, by rw [this.2.1]; exact h1, by rw [this.2.2]; exact h2, by rw [this.1]; exact h3⟩
  have hB := of_isB b k w
  cases ho : of b k w with
  | none =>
    rw [ho] at hB
    intro t ht
    obtain ⟨u, hu, _⟩ := (hC t).1 ht
    exact hB u hu
  | some t =>
    rw [ho] at hB
    refine ⟨(hC _).2 ⟨t, hB.1, rfl⟩, fun u hu => ?_⟩
    obtain ⟨u0, h0, rfl⟩ := (hC u).1 hu
    rw [(upd_same v hs h0.1).1, (upd_same v hs hB.1.1).1]
    exact hB.2 u0 h0
theorem upd_other {b : Ref07Book} (v : Val b) {g by1 : Int} {s t : Ref07Sheet} (hs : s ∈ b.fSheets) (ht : t ∈ b.fSheets) (hne : t.fBowler ≠ s.fBowler ∨ t.fWeek ≠ s.fWeek) : upd g by1 s t = t := by
  unfold upd
  rw [if_neg]
  intro e
  have := v.once t ht s hs e
  subst this
  rcases hne with h | h <;> exact h rfl
theorem betb_same {b : Ref07Book} (v : Val b) {g by1 : Int} {s : Ref07Sheet} (hs : s ∈ b.fSheets) (hb : 0 ≤ by1) {k w : Int} (hne : k ≠ s.fBowler ∨ w ≠ s.fWeek) : of b k w = of (betb b g by1 s) k w := by
  rw [betb_of v hs hb]
  cases ho : of b k w with
  | none => rfl
  | some t =>
    have := of_C ho
    rw [Option.map_some, upd_other v hs this.1 (by rw [this.2.1, this.2.2.1]; exact hne)]
theorem pt_mono {x x' y : Int} (h : x ≤ x') : (pt x y).1 ≤ (pt x' y).1 := by
  unfold pt
  split
  · rw [if_pos (by omega)]; exact Int.le_refl _
  · split
    · have := (pt_bd x' y).1; unfold pt at this; exact this
    · split
      · simp
      · rw [if_neg (by omega)]; exact Int.le_refl _

theorem better_pts {b x : Ref07Book} (hl : x.fLaw = b.fLaw) (hbw : x.fBowlers = b.fBowlers) {s s' : Ref07Sheet} (hsame : ∀ k w, (k ≠ s.fBowler ∨ w ≠ s.fWeek) → of b k w = of x k w)
    (ho : of b s.fBowler s.fWeek = some s) (hos : of x s.fBowler s.fWeek = some s') (hg : s.fGames.a0 ≤ s'.fGames.a0 ∧ s.fGames.a1 ≤ s'.fGames.a1 ∧ s.fGames.a2 ≤ s'.fGames.a2) {away : List Int} (htf : tf b [s.fBowler] away = 0) :
    (mtch b s.fWeek [s.fBowler] away).1 ≤ (mtch x s.fWeek [s.fBowler] away).1 := by
  have hnd := (tf_zero htf).2.2.2
  have havg : ∀ k, avg x k s.fWeek (0, 0) = avg b k s.fWeek (0, 0) := fun k => avg_congr hl hbw (fun v _ hv => (hsame k v (.inr (by omega))).symm) _
  have haw : team x s.fWeek away = team b s.fWeek away := team_congr fun k hk => made_congr hl (havg k) (hsame k _ (.inl (by
    intro e
    subst e
    rw [List.singleton_append, List.nodup_cons] at hnd
    exact hnd.1 hk))).symm
  have hh : hcp x s.fBowler s.fWeek = hcp b s.fBowler s.fWeek := hcp_congr hl (havg _)
  have e0 : ∀ y : Ref07Book, team y s.fWeek [s.fBowler] = made y s.fBowler s.fWeek := by intro y; unfold team; simp
  have m0 : made b s.fBowler s.fWeek = ⟨s.fGames.a0 + hcp b s.fBowler s.fWeek, s.fGames.a1 + hcp b s.fBowler s.fWeek, s.fGames.a2 + hcp b s.fBowler s.fWeek⟩ := by unfold made; rw [ho]
  have m1 : made x s.fBowler s.fWeek = ⟨s'.fGames.a0 + hcp b s.fBowler s.fWeek, s'.fGames.a1 + hcp b s.fBowler s.fWeek, s'.fGames.a2 + hcp b s.fBowler s.fWeek⟩ := by unfold made; rw [hos, hh]
  unfold mtch
  simp only [haw, e0, m0, m1, gsum]
  generalize team b s.fWeek away = t
  have p0 := pt_mono (x := s.fGames.a0 + hcp b s.fBowler s.fWeek) (x' := s'.fGames.a0 + hcp b s.fBowler s.fWeek) (y := t.a0) (by omega)
  have p1 := pt_mono (x := s.fGames.a1 + hcp b s.fBowler s.fWeek) (x' := s'.fGames.a1 + hcp b s.fBowler s.fWeek) (y := t.a1) (by omega)
  have p2 := pt_mono (x := s.fGames.a2 + hcp b s.fBowler s.fWeek) (x' := s'.fGames.a2 + hcp b s.fBowler s.fWeek) (y := t.a2) (by omega)
  have p3 := pt_mono (x := s.fGames.a0 + hcp b s.fBowler s.fWeek + (s.fGames.a1 + hcp b s.fBowler s.fWeek) + (s.fGames.a2 + hcp b s.fBowler s.fWeek)) (x' := s'.fGames.a0 + hcp b s.fBowler s.fWeek + (s'.fGames.a1 + hcp b s.fBowler s.fWeek) + (s'.fGames.a2 + hcp b s.fBowler s.fWeek)) (y := t.a0 + t.a1 + t.a2) (by omega)
  omega

section
variable {N : Nat} (hN : 4000 ≤ N)
include hN

theorem withdrawn_less (b : Ref07Book) (s : Ref07Sheet) (hn : b.fSheets.length ≤ 1000) : loopN (fun rec3 x => law07RateWithdrawn_b1 N b s rec3 x.1 x.2) N (0, []) = some (less b s).fSheets := by
  have := loop_list (N := N) (B := fun rec3 x => law07RateWithdrawn_b1 N b s rec3 x.1 x.2) b.fSheets (fun i (l : List Ref07Sheet) => ((i : Int), l)) (fun r l => some (l ++ r.filter fun t => !decide (t.fNumber = s.fNumber))) (fun i l => l.length ≤ i)
    (fun l rec _ => by
      show law07RateWithdrawn_b1 N b s rec (b.fSheets.length : Int) l = _
      unfold law07RateWithdrawn_b1
      rw [decide_eq_false (by omega)]
      simp)
    (fun i x l rec hx hok h => by
      have hlt := len_lt hx
      show law07RateWithdrawn_b1 N b s rec (i : Int) l = _
      unfold law07RateWithdrawn_b1
      have happ : app N l [x] = some (l ++ [x]) := app_ok (by simp; omega)
      simp only [show ((i : Int) < (b.fSheets.length : Int)) from by omega, decide_true, if_true, idx_at hx, Option.bind_some, w64_succ (i := i) (by omega), List.filter_cons]
      by_cases q : x.fNumber = s.fNumber
      · simp only [q, decide_true, Bool.not_true, Bool.false_eq_true, if_false, Option.bind_some]
        rw [h _ (by omega)]
      · simp only [q, decide_false, Bool.not_false, if_true, Option.bind_some, happ]
        rw [h _ (by simp; omega)]; simp) (by omega) [] (by simp)
  exact this

theorem withdrawn_true (b : Ref07Book) (which week : Int) (f1 : 0 ≤ which ∧ which ≤ 255) (f3 : 0 ≤ week ∧ week ≤ 255) : law07RateWithdrawn N b which week = some true := by
  unfold law07RateWithdrawn
  rw [ready_eq hN]
  simp only [Option.bind_some]
  by_cases hf : flt b = 0
  · have v := flt_zero.1 hf
    have n1 := v.nb
    have n2 := v.ns
    have n3 := v.nw
    simp only [hf, decide_true, Bool.not_true, Bool.false_eq_true, if_false]
    by_cases c1 : (b.fSheets.length : Int) = 0
    · simp [c1, wakes_ok hN]
    · by_cases c2 : (39 : Int) < (b.fWithdrawn.length : Int)
      · simp [c1, c2, wakes_ok hN]
      · simp only [c1, c2, decide_false, Bool.false_eq_true, if_false, Option.bind_some]
        rw [nz_ok c1, w64_id (n := which) (by omega) (by omega)]
        have ht := tmod_bd (x := which) (n := (b.fSheets.length : Int)) (by omega) (by omega)
        have hw := tmod_bd (x := week) (n := 30) (by omega) (by omega)
        generalize Int.tmod which (b.fSheets.length : Int) = j at *
        obtain ⟨s, hs⟩ : ∃ s, b.fSheets[j.toNat]? = some s := ⟨b.fSheets[j.toNat]'(by omega), by simp⟩
        have hm : s ∈ b.fSheets := List.mem_of_getElem? hs
        rw [idx_int ht.1 hs]
        simp only [Option.bind_some]
        rw [withdrawn_less hN b s (by omega), rcounts_eq hN b s (by omega) (by omega)]
        simp only [Option.bind_some]
        have vl := less_val v s
        have hfl : flt (less b s) = 0 := flt_zero.2 vl
        have hlb : (less b s).fBowlers.length ≤ 1000 := by have := vl.nb; omega
        have hls : (less b s).fSheets.length ≤ 1000 := by have := vl.ns; omega
        have hlw : (less b s).fWithdrawn.length ≤ 1000 := by have := vl.nw; omega
        have hcl : ∀ b : Ref07Book, (cnt b).length ≤ 1000 := by
          intro b
          unfold cnt
          refine Nat.le_trans (List.length_filter_le _ _) ?_
          rw [nums_len]; omega
        have el : (⟨b.fLaw, b.fBowlers, (less b s).fSheets, b.fWithdrawn⟩ : Ref07Book) = less b s := rfl
        have hw30 : w64 (1 + Int.tmod (w64 week) 30) = 1 + Int.tmod week 30 := by rw [w64_id (n := week) (by omega) (by omega), w64_id (by omega) (by omega)]
        by_cases hc : counts b s = true
        · rw [if_pos hc]
          have hnw : s.fNumber ∉ b.fWithdrawn := by
            unfold counts at hc
            rw [Bool.and_eq_true, Bool.not_eq_true', decide_eq_false_iff_not] at hc
            exact hc.1
          have vm := more_val v hm hnw (by omega)
          have hfm : flt (more b s) = 0 := flt_zero.2 vm
          have hmb : (more b s).fBowlers.length ≤ 1000 := by have := vm.nb; omega
          have hms : (more b s).fSheets.length ≤ 1000 := by have := vm.ns; omega
          have hmw : (more b s).fWithdrawn.length ≤ 1000 := by have := vm.nw; omega
          have hof := less_more v hm
          have hcnt : cnt (less b s) = cnt (more b s) := cnt_congr vl.once vm.once hof
          have := loop_list (N := N) (B := fun rec5 x => law07RateWithdrawn_b4 N b week s (less b s).fSheets rec5 x.1 x.2) nums (fun i (l : List Int) => ((i : Int) + 1, l)) (fun r l => if l ++ r.filter (fun n => decide (n = s.fNumber) || decide (n ∈ b.fWithdrawn)) = wdl b s then some true else law07RateWithdrawn_b4 N b week s (less b s).fSheets (fun _ => none) (999 + 1) (l ++ r.filter fun n => decide (n = s.fNumber) || decide (n ∈ b.fWithdrawn))) (fun i l => l.length ≤ i)
            (fun l rec _ => by
              show law07RateWithdrawn_b4 N b week s (less b s).fSheets rec ((nums.length : Int) + 1) l = _
              rw [List.filter_nil, List.append_nil, nums_len]
              by_cases hl : l = wdl b s
              · rw [if_pos hl, hl]
                unfold law07RateWithdrawn_b4
                have em : (⟨b.fLaw, b.fBowlers, b.fSheets, wdl b s⟩ : Ref07Book) = more b s := rfl
                rw [decide_eq_false (by omega), el, em, book_eq hN _ hlb hls hlw, book_eq hN _ hmb hms hmw]
                simp only [Bool.false_eq_true, if_false, Option.bind_some, counting_eq hN, hfl, hfm, if_true, hcnt, decide_true, Bool.not_true, ints_eq hN _ _ (hcl _)]
                have hin := loop_list0 (N := N) (B := fun rec7 x => law07RateWithdrawn_b3 N b week (less b s).fSheets (wdl b s) rec7 x) b.fBowlers (fun i => (i : Int)) (fun _ => some true)
                  (fun rec' => by
                    show law07RateWithdrawn_b3 N b week _ _ rec' (b.fBowlers.length : Int) = _
                    unfold law07RateWithdrawn_b3
                    rw [decide_eq_false (by omega)]
                    simp [law07RateWithdrawn_k2, wakes_ok hN])
                  (fun i x rec' hx h => by
                    have hlt := len_lt hx
                    show law07RateWithdrawn_b3 N b week _ _ rec' (i : Int) = _
                    unfold law07RateWithdrawn_b3
                    rw [decide_eq_true (by omega), el, em, hw30, same_true hN vl vm rfl rfl (by show 0 ≤ (i : Int) ∧ (i : Int) ≤ (b.fBowlers.length : Int) - 1; omega) (by omega) (avg_congr (a := less b s) (b := more b s) rfl rfl (fun u _ _ => hof _ u) _)]
                    simp only [if_true, Option.bind_some, Bool.not_true, Bool.false_eq_true, if_false, w64_succ (i := i) (by omega), h]) (by omega)
                exact hin
              · rw [if_neg hl]
                unfold law07RateWithdrawn_b4
                rw [decide_eq_false (by omega)]
                rfl)
            (fun i x l rec hx hok h => by
              have hlt := len_lt hx
              rw [nums_len] at hlt
              have ex : x = (i : Int) + 1 := by
                have := hx
                unfold nums at this
                rw [List.getElem?_map, List.getElem?_range (by omega)] at this
                simpa using this.symm
              subst ex
              show law07RateWithdrawn_b4 N b week s (less b s).fSheets rec ((i : Int) + 1) l = _
              rw [law07RateWithdrawn_b4.eq_def]
              have hs1 : w64 ((i : Int) + 1 + 1) = ((i + 1 : Nat) : Int) + 1 := by rw [w64_id (by omega) (by omega)]; omega
              have happ : app N l [(i : Int) + 1] = some (l ++ [(i : Int) + 1]) := app_ok (by simp; omega)
              rw [decide_eq_true (show (i : Int) + 1 ≤ 999 by omega)]
              simp only [if_true, has_eq hN _ _ (show b.fWithdrawn.length ≤ 1000 by omega), Option.bind_some, hs1]
              by_cases q1 : (i : Int) + 1 = s.fNumber
              · rw [List.filter_cons_of_pos (by simp [q1])]
                simp only [decide_eq_true q1, if_true, Option.bind_some, happ]
                rw [h _ (by simp; omega)]
                simp only [List.append_assoc, List.singleton_append]
              · by_cases q2 : (i : Int) + 1 ∈ b.fWithdrawn
                · rw [List.filter_cons_of_pos (by simp [q2])]
                  simp only [decide_eq_false q1, decide_eq_true q2, if_true, Bool.false_eq_true, if_false, Option.bind_some, happ]
                  rw [h _ (by simp; omega)]
                  simp only [List.append_assoc, List.singleton_append]
                · rw [List.filter_cons_of_neg (by simp [q1, q2])]
                  simp only [decide_eq_false q1, decide_eq_false q2, Bool.false_eq_true, if_false, Option.bind_some]
                  rw [h _ (by omega)]) (by rw [nums_len]; omega) [] (by simp)
          refine Eq.trans this ?_
          exact if_pos ((List.nil_append _).trans (wdl_eq b s))
        · rw [if_neg hc]
          simp only [Bool.not_eq_true] at hc
          have hof := less_same v hm hc
          have hcnt : cnt (less b s) = cnt b := cnt_congr vl.once v.once hof
          rw [el, book_eq hN _ hlb hls hlw, book_eq hN b (by omega) (by omega) (by omega)]
          simp only [Option.bind_some, counting_eq hN, hfl, hf, if_true, hcnt, decide_true, Bool.not_true, Bool.false_eq_true, if_false, ints_eq hN _ _ (hcl _)]
          have hin := loop_list0 (N := N) (B := fun rec9 x => law07RateWithdrawn_b6 N b week (less b s).fSheets rec9 x) b.fBowlers (fun i => (i : Int)) (fun _ => some true)
            (fun rec' => by
              show law07RateWithdrawn_b6 N b week _ rec' (b.fBowlers.length : Int) = _
              unfold law07RateWithdrawn_b6
              rw [decide_eq_false (by omega)]
              simp [law07RateWithdrawn_k5, wakes_ok hN])
            (fun i x rec' hx h => by
              have hlt := len_lt hx
              show law07RateWithdrawn_b6 N b week _ rec' (i : Int) = _
              unfold law07RateWithdrawn_b6
              rw [decide_eq_true (by omega), el, hw30, same_true hN vl v rfl rfl (by omega) (by omega) (avg_congr (a := less b s) (b := b) rfl rfl (fun u _ _ => hof _ u) _)]
              simp only [if_true, Option.bind_some, Bool.not_true, Bool.false_eq_true, if_false, w64_succ (i := i) (by omega), h]) (by omega)
          exact hin
  · simp [hf, wakes_ok hN]

theorem better_list (b : Ref07Book) (v : Val b) (g game by1 : Int) (s : Ref07Sheet) (hs : s ∈ b.fSheets) (f2 : 0 ≤ game ∧ game ≤ 255) (f3 : 0 ≤ by1 ∧ by1 ≤ 255) (hg : g = Int.tmod game 3) :
    loopN (fun rec3 x => law07RateBetter_b1 N game by1 s rec3 x.1 x.2) N (0, b.fSheets) = some (b.fSheets.map (upd g (Int.tmod by1 60) s)) := by
  have hg3 := tmod_bd (x := game) (n := 3) (by omega) (by omega)
  have hb60 := tmod_bd (x := by1) (n := 60) (by omega) (by omega)
  have n2 := v.ns
  have hsv := val_sheet v hs
  have := loop_from (N := N) (B := fun rec3 x => law07RateBetter_b1 N game by1 s rec3 x.1 x.2) b.fSheets (fun i => ((i : Int), (b.fSheets.take i).map (upd g (Int.tmod by1 60) s) ++ b.fSheets.drop i)) (fun _ _ => some (b.fSheets.map (upd g (Int.tmod by1 60) s)))
    (fun rec => by
      show law07RateBetter_b1 N game by1 s rec (b.fSheets.length : Int) _ = _
      unfold law07RateBetter_b1
      rw [decide_eq_false (by simp)]
      simp)
    (fun i x rec hx h => by
      have hlt := len_lt hx
      show law07RateBetter_b1 N game by1 s rec (i : Int) _ = _
      unfold law07RateBetter_b1
      have hxm : x ∈ b.fSheets := List.mem_of_getElem? hx
      have hlen : ((b.fSheets.take i).map (upd g (Int.tmod by1 60) s) ++ b.fSheets.drop i).length = b.fSheets.length := by simp; omega
      have hat : ((b.fSheets.take i).map (upd g (Int.tmod by1 60) s) ++ b.fSheets.drop i)[i]? = some x := by
        rw [List.getElem?_append_right (by simp; omega)]
        have : i - ((b.fSheets.take i).map (upd g (Int.tmod by1 60) s)).length = 0 := by simp; omega
        rw [this, List.getElem?_drop, Nat.add_zero]; exact hx
      have hset : ∀ y, List.set ((b.fSheets.take i).map (upd g (Int.tmod by1 60) s) ++ b.fSheets.drop i) (Int.toNat (i : Int)) y = (b.fSheets.take i).map (upd g (Int.tmod by1 60) s) ++ y :: b.fSheets.drop (i + 1) := by
        intro y
        rw [Int.toNat_natCast, List.set_append_right _ _ (by simp; omega)]
        have : i - ((b.fSheets.take i).map (upd g (Int.tmod by1 60) s)).length = 0 := by simp; omega
        rw [this, List.drop_eq_getElem_cons hlt, List.set_cons_zero]
      have hnext : (b.fSheets.take (i + 1)).map (upd g (Int.tmod by1 60) s) ++ b.fSheets.drop (i + 1) = (b.fSheets.take i).map (upd g (Int.tmod by1 60) s) ++ upd g (Int.tmod by1 60) s x :: b.fSheets.drop (i + 1) := by
        rw [List.take_add_one, hx]; simp
      rw [hnext] at h
      rw [decide_eq_true (by rw [hlen]; omega), idx_at hat]
      simp only [if_true, Option.bind_some, w64_succ (i := i) (by omega), hset]
      rw [w64_id (n := game) (by omega) (by omega), w64_id (n := by1) (by omega) (by omega), ← hg]
      rw [w64_id (n := s.fGames.a0 + Int.tmod by1 60) (by omega) (by omega), w64_id (n := s.fGames.a1 + Int.tmod by1 60) (by omega) (by omega), w64_id (n := s.fGames.a2 + Int.tmod by1 60) (by omega) (by omega)]
      by_cases q : x.fNumber = s.fNumber
      · have := v.once x hxm s hs q
        subst this
        have hu : upd g (Int.tmod by1 60) x x = ⟨x.fNumber, x.fBowler, x.fWeek, bet g x (Int.tmod by1 60)⟩ := by unfold upd; rw [if_pos rfl]
        rw [hu] at h
        unfold bet at h
        by_cases g0 : g = 0
        · rw [if_pos g0] at h
          simp only [g0, decide_true, if_true, Option.bind_some]
          rw [← g0]; rw [g0] at h ⊢; exact h
        · rw [if_neg g0] at h
          by_cases g1 : g = 1
          · rw [if_pos g1] at h
            simp only [g0, g1, decide_true, decide_false, if_true, Bool.false_eq_true, if_false, Option.bind_some]
            rw [g1] at h; exact h
          · rw [if_neg g1] at h
            have g2 : g = 2 := by omega
            simp only [g0, g1, g2, decide_true, decide_false, if_true, Bool.false_eq_true, if_false, Option.bind_some]
            rw [g2] at h; exact h
      · have hu : upd g (Int.tmod by1 60) s x = x := by unfold upd; rw [if_neg q]
        rw [hu] at h
        simp only [q, decide_false, Bool.false_eq_true, if_false, Option.bind_some]
        have e : b.fSheets.drop i = x :: b.fSheets.drop (i + 1) := by
          rw [List.drop_eq_getElem_cons hlt]
          have := (List.getElem?_eq_some_iff.1 hx).2
          rw [this]
        rw [e]; exact h) (by omega) 0 (by omega)
  simpa using this

theorem better_true (b : Ref07Book) (which game by1 : Int) (away : List Int) (f1 : 0 ≤ which ∧ which ≤ 255) (f2 : 0 ≤ game ∧ game ≤ 255) (f3 : 0 ≤ by1 ∧ by1 ≤ 255) : law07RateBetter N b which game by1 away = some true := by
  unfold law07RateBetter
  rw [ready_eq hN]
  simp only [Option.bind_some]
  by_cases hf : flt b = 0
  · have v := flt_zero.1 hf
    have n1 := v.nb
    have n2 := v.ns
    have n3 := v.nw
    simp only [hf, decide_true, Bool.not_true, Bool.false_eq_true, if_false]
    by_cases c1 : (b.fSheets.length : Int) = 0
    · simp [c1, wakes_ok hN]
    · by_cases c2 : (4 : Int) < (away.length : Int)
      · simp [c1, c2, wakes_ok hN]
      · simp only [c1, c2, decide_false, Bool.false_eq_true, if_false, Option.bind_some]
        rw [nz_ok c1, w64_id (n := which) (by omega) (by omega)]
        have ht := tmod_bd (x := which) (n := (b.fSheets.length : Int)) (by omega) (by omega)
        generalize Int.tmod which (b.fSheets.length : Int) = j at *
        obtain ⟨s, hs⟩ : ∃ s, b.fSheets[j.toNat]? = some s := ⟨b.fSheets[j.toNat]'(by omega), by simp⟩
        have hm : s ∈ b.fSheets := List.mem_of_getElem? hs
        rw [idx_int ht.1 hs]
        simp only [Option.bind_some, rcounts_eq hN b s (show b.fSheets.length ≤ 1000 by omega) (show b.fWithdrawn.length ≤ 1000 by omega), rteams_eq hN b (show b.fBowlers.length ≤ 1000 by omega)]
        by_cases hc : counts b s = true
        · by_cases htf : tf b [s.fBowler] away = 0
          · simp only [hc, htf, decide_true, Bool.not_true, Bool.false_eq_true, if_false, Option.bind_some]
            rw [app_ok (by simp; omega), List.nil_append]
            simp only [Option.bind_some]
            rw [better_list hN b v (Int.tmod game 3) game by1 s hm f2 f3 rfl]
            simp only [Option.bind_some]
            have hb60 := tmod_bd (x := by1) (n := 60) (by omega) (by omega)
            have hsv := val_sheet v hm
            have eb : (⟨b.fLaw, b.fBowlers, b.fSheets.map (upd (Int.tmod game 3) (Int.tmod by1 60) s), b.fWithdrawn⟩ : Ref07Book) = betb b (Int.tmod game 3) (Int.tmod by1 60) s := rfl
            have hsame := fun k w => @betb_same b v (Int.tmod game 3) (Int.tmod by1 60) s hm hb60.1 k w
            have vx := @betb_val b v (Int.tmod game 3) (Int.tmod by1 60) s hm hb60.1
            have hofs := @betb_of b v (Int.tmod game 3) (Int.tmod by1 60) s hm hb60.1 s.fBowler s.fWeek
            have hbet := @bet_bd b v (Int.tmod game 3) (Int.tmod by1 60) s hm hb60.1
            have hu : upd (Int.tmod game 3) (Int.tmod by1 60) s s = ⟨s.fNumber, s.fBowler, s.fWeek, bet (Int.tmod game 3) s (Int.tmod by1 60)⟩ := by unfold upd; rw [if_pos rfl]
            rw [(counts_iff v.once hm).1 hc, Option.map_some, hu] at hofs
            rw [eb]
            have hpts := better_pts (b := b) (x := betb b (Int.tmod game 3) (Int.tmod by1 60) s) rfl rfl hsame ((counts_iff v.once hm).1 hc) hofs hbet.2 htf
            have hfx : flt (betb b (Int.tmod game 3) (Int.tmod by1 60) s) = 0 := flt_zero.2 vx
            have hwk : inr s.fWeek 1 30 = true := inr_iff.2 hsv.2.2.1
            have mb : mer b s.fWeek [s.fBowler] away = 0 := by unfold mer; rw [if_pos hf, if_pos hwk]; exact htf
            have mx : mer (betb b (Int.tmod game 3) (Int.tmod by1 60) s) s.fWeek [s.fBowler] away = 0 := by unfold mer; rw [if_pos hfx, if_pos hwk]; exact (tf_congr (a := betb b (Int.tmod game 3) (Int.tmod by1 60) s) (b := b) rfl _ _).trans htf
            have x1 := vx.nb
            have x2 := vx.ns
            have x3 := vx.nw
            rw [book_eq hN b (by omega) (by omega) (by omega), book_eq hN _ (show (betb b (Int.tmod game 3) (Int.tmod by1 60) s).fBowlers.length ≤ 1000 by omega) (by omega) (by omega), list_eq hN (xs := away) (by omega)]
            simp only [Option.bind_some, match_eq hN b (show b.fBowlers.length ≤ 1000 by omega), match_eq hN (betb b (Int.tmod game 3) (Int.tmod by1 60) s) (show (betb b (Int.tmod game 3) (Int.tmod by1 60) s).fBowlers.length ≤ 1000 by omega), mb, mx, if_true, decide_true, Bool.not_true, Bool.false_eq_true, if_false]
            rw [decide_eq_false (by omega)]
            simp only [Bool.false_eq_true, if_false]
            have hw1 := tmod_bd (x := by1) (n := s.fWeek) (by omega) (by omega)
            exact loop_list0 (N := N) (B := fun rec5 x => law07RateBetter_b3 N b by1 s (b.fSheets.map (upd (Int.tmod game 3) (Int.tmod by1 60) s)) rec5 x) b.fBowlers (fun i => (i : Int)) (fun _ => some true)
              (fun rec' => by
                show law07RateBetter_b3 N b by1 s _ rec' (b.fBowlers.length : Int) = _
                unfold law07RateBetter_b3
                rw [decide_eq_false (by omega)]
                simp [law07RateBetter_k2, wakes_ok hN])
              (fun i y rec' hy h => by
                have hlt := len_lt hy
                show law07RateBetter_b3 N b by1 s _ rec' (i : Int) = _
                unfold law07RateBetter_b3
                have hi : 0 ≤ (i : Int) ∧ (i : Int) ≤ ((betb b (Int.tmod game 3) (Int.tmod by1 60) s).fBowlers.length : Int) - 1 := by show 0 ≤ (i : Int) ∧ (i : Int) ≤ (b.fBowlers.length : Int) - 1; omega
                rw [w64_id (n := by1) (by omega) (by omega), w64_id (n := 1 + Int.tmod by1 s.fWeek) (by omega) (by omega), decide_eq_true (by omega), eb, nz_ok (by omega)]
                rw [same_true hN v vx rfl rfl hi hsv.2.2.1 (avg_congr (a := b) (b := betb b (Int.tmod game 3) (Int.tmod by1 60) s) rfl rfl (fun u _ hu => hsame _ u (.inr (by omega))) _), same_true hN v vx rfl rfl hi (w := 1 + Int.tmod by1 s.fWeek) (by omega) (avg_congr (a := b) (b := betb b (Int.tmod game 3) (Int.tmod by1 60) s) rfl rfl (fun u _ hu => hsame _ u (.inr (by omega))) _)]
                simp only [if_true, Option.bind_some, Bool.not_true, Bool.false_eq_true, if_false, w64_succ (i := i) (by omega), h]) (by omega)
          · simp [hc, htf, wakes_ok hN]
        · simp only [Bool.not_eq_true] at hc
          simp [hc, wakes_ok hN]
  · simp [hf, wakes_ok hN]
end
end Go.Proofs.Ytmencjafjcmbaaa
