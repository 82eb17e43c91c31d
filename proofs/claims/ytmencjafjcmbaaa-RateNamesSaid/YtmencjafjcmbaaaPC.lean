/-
  Averages, handicaps, what a bowler makes: by the program, by the document.
-/
import Derived.Test.YtmencjafjcmbaaaPB
set_option linter.all false
namespace Go.Proofs.Ytmencjafjcmbaaa
open Go.Kp

def gsum (g : Ar3 Int) : Int := g.a0 + g.a1 + g.a2
def accW (b : Ref07Book) (k : Int) (a : Int × Int) (w : Int) : Int × Int := match of b k w with
  | some s => (a.1 + 3, a.2 + gsum s.fGames)
  | none => a
def weeks (n : Nat) : List Int := (List.range n).map fun (i : Nat) => (i : Int) + 1
def tot (b : Ref07Book) (k w : Int) (a : Int × Int) : Int × Int := (weeks (w - 1).toNat).foldl (accW b k) a
def bow (b : Ref07Book) (k : Int) : Int := (b.fBowlers[k.toNat]?).getD 0
def avg (b : Ref07Book) (k w : Int) (a : Int × Int) : Int := if (tot b k w a).1 < b.fLaw.fLeast then bow b k else Int.tdiv (tot b k w a).2 (tot b k w a).1
def hcp (b : Ref07Book) (k w : Int) : Int := min (max 0 (Int.tdiv ((b.fLaw.fBase - avg b k w (0, 0)) * b.fLaw.fPercent) 100)) b.fLaw.fCap

theorem weeks_len (n : Nat) : (weeks n).length = n := by unfold weeks; rw [List.length_map, List.length_range]
theorem weeks_get {n i : Nat} {x : Int} (h : (weeks n)[i]? = some x) : x = (i : Int) + 1 ∧ i < n := by
  have hlt := len_lt h
  rw [weeks_len] at hlt
  unfold weeks at h
  rw [List.getElem?_map, List.getElem?_range hlt] at h
  exact ⟨by simpa using h.symm, hlt⟩
theorem mem_weeks {n : Nat} {x : Int} : x ∈ weeks n ↔ 1 ≤ x ∧ x ≤ n := by
  unfold weeks
  rw [List.mem_map]
  constructor
  · rintro ⟨i, hi, rfl⟩
    have := List.mem_range.1 hi; omega
  · rintro ⟨h1, h2⟩
    exact ⟨(x - 1).toNat, List.mem_range.2 (by omega), by omega⟩

theorem val_law {b : Ref07Book} (v : Val b) : (0 ≤ b.fLaw.fBase ∧ b.fLaw.fBase ≤ 300) ∧ (0 ≤ b.fLaw.fPercent ∧ b.fLaw.fPercent ≤ 100) ∧ (0 ≤ b.fLaw.fCap ∧ b.fLaw.fCap ≤ 300) ∧ (1 ≤ b.fLaw.fLeast ∧ b.fLaw.fLeast ≤ 30) ∧ (0 ≤ b.fLaw.fBlind ∧ b.fLaw.fBlind ≤ 300) := by
  have := v.law
  simp only [lawOk, Bool.and_eq_true] at this
  exact ⟨inr_iff.1 this.1, inr_iff.1 this.2.1, inr_iff.1 this.2.2.1, inr_iff.1 this.2.2.2.1, inr_iff.1 this.2.2.2.2⟩
theorem val_sheet {b : Ref07Book} (v : Val b) {s : Ref07Sheet} (hs : s ∈ b.fSheets) : (1 ≤ s.fNumber ∧ s.fNumber ≤ 999) ∧ (0 ≤ s.fBowler ∧ s.fBowler ≤ (b.fBowlers.length : Int) - 1) ∧ (1 ≤ s.fWeek ∧ s.fWeek ≤ 30) ∧ (0 ≤ s.fGames.a0 ∧ s.fGames.a0 ≤ 300) ∧ (0 ≤ s.fGames.a1 ∧ s.fGames.a1 ≤ 300) ∧ (0 ≤ s.fGames.a2 ∧ s.fGames.a2 ≤ 300) := by
  have := v.sh s hs
  simp only [sheetOk, gamesOk, Bool.and_eq_true] at this
  exact ⟨inr_iff.1 this.1, inr_iff.1 this.2.1, inr_iff.1 this.2.2.1, inr_iff.1 this.2.2.2.1, inr_iff.1 this.2.2.2.2.1, inr_iff.1 this.2.2.2.2.2⟩
theorem of_C {b : Ref07Book} {k w : Int} {s : Ref07Sheet} (h : of b k w = some s) : C b k w s := by
  have := of_isB b k w
  rw [h] at this
  exact this.1
theorem of_games {b : Ref07Book} (v : Val b) {k w : Int} {s : Ref07Sheet} (h : of b k w = some s) : (0 ≤ s.fGames.a0 ∧ s.fGames.a0 ≤ 300) ∧ (0 ≤ s.fGames.a1 ∧ s.fGames.a1 ≤ 300) ∧ (0 ≤ s.fGames.a2 ∧ s.fGames.a2 ≤ 300) :=
  (val_sheet v (of_C h).1).2.2.2
theorem of_zero {b : Ref07Book} (v : Val b) {k w : Int} (h : w < 1) : of b k w = none := by
  cases ho : of b k w with
  | none => rfl
  | some s =>
    have := of_C ho
    have h2 := (val_sheet v this.1).2.2.1
    have h3 := this.2.2.1
    omega

/-- a pair of games and a sum that may be -/
def Bd (n : Int) (a : Int × Int) : Prop := 0 ≤ a.1 ∧ a.1 ≤ n ∧ 0 ≤ a.2 ∧ a.2 ≤ 300 * a.1
theorem accW_bd {b : Ref07Book} (v : Val b) {k n : Int} {a : Int × Int} (h : Bd n a) (w : Int) : Bd (n + 3) (accW b k a w) := by
  unfold accW
  obtain ⟨h1, h2, h3, h4⟩ := h
  cases ho : of b k w with
  | none => exact ⟨h1, by show a.1 ≤ n + 3; omega, h3, h4⟩
  | some s =>
    have := of_games v ho
    refine ⟨?_, ?_, ?_, ?_⟩ <;> simp only [gsum] <;> omega
theorem fold_bd {b : Ref07Book} (v : Val b) {k : Int} : ∀ (l : List Int) {n : Int} {a : Int × Int}, Bd n a → Bd (n + 3 * l.length) (l.foldl (accW b k) a)
  | [], n, a, h => by simpa using h
  | w :: l, n, a, h => by
    rw [List.foldl_cons]
    have := fold_bd (k := k) v l (accW_bd (k := k) v h w)
    rw [List.length_cons]
    rw [show n + 3 * ((l.length + 1 : Nat) : Int) = n + 3 + 3 * (l.length : Int) by omega]
    exact this
theorem tot_bd {b : Ref07Book} (v : Val b) {k w n : Int} {a : Int × Int} (hw : w ≤ 30) (h : Bd n a) : Bd (n + 90) (tot b k w a) := by
  have := fold_bd (k := k) v (weeks (w - 1).toNat) h
  rw [weeks_len] at this
  obtain ⟨h1, h2, h3, h4⟩ := this
  exact ⟨h1, by unfold tot; omega, h3, h4⟩
theorem bow_bd {b : Ref07Book} (v : Val b) (k : Int) : 0 ≤ bow b k ∧ bow b k ≤ 300 := by
  unfold bow
  cases h : b.fBowlers[k.toNat]? with
  | none => simp
  | some n => exact v.bow n (List.mem_of_getElem? h)
theorem avg_bd {b : Ref07Book} (v : Val b) {k w n : Int} {a : Int × Int} (hw : w ≤ 30) (h : Bd n a) : 0 ≤ avg b k w a ∧ avg b k w a ≤ 300 := by
  unfold avg
  have hl := val_law v
  split
  · exact bow_bd v k
  · obtain ⟨h1, h2, h3, h4⟩ := tot_bd (k := k) v hw h
    generalize tot b k w a = t at *
    rw [Int.tdiv_eq_ediv_of_nonneg h3]
    refine ⟨Int.ediv_nonneg h3 h1, ?_⟩
    have hpos : 0 < t.1 := by omega
    have := Int.ediv_le_ediv hpos h4
    rwa [Int.mul_ediv_cancel _ (by omega)] at this
theorem hcp_bd {b : Ref07Book} (v : Val b) (k w : Int) : 0 ≤ hcp b k w ∧ hcp b k w ≤ b.fLaw.fCap := by
  unfold hcp
  have := val_law v
  omega

theorem mul_bd {x p : Int} (hx : -300 ≤ x ∧ x ≤ 300) (hp : 0 ≤ p ∧ p ≤ 100) : -30000 ≤ x * p ∧ x * p ≤ 30000 := by
  constructor
  · have : (-300) * p ≤ x * p := Int.mul_le_mul_of_nonneg_right hx.1 hp.1
    omega
  · have : x * p ≤ 300 * p := Int.mul_le_mul_of_nonneg_right hx.2 hp.1
    omega
theorem tdiv_bd {x B : Int} (h : -B ≤ x ∧ x ≤ B) : -B ≤ Int.tdiv x 100 ∧ Int.tdiv x 100 ≤ B := by
  rcases Int.le_total 0 x with q | q
  · rw [Int.tdiv_eq_ediv_of_nonneg q]
    omega
  · have : Int.tdiv x 100 = -(Int.tdiv (-x) 100) := by rw [Int.neg_tdiv]; omega
    rw [this, Int.tdiv_eq_ediv_of_nonneg (by omega)]
    omega

section
variable {N : Nat} (hN : 4000 ≤ N)
include hN

theorem sum_eq (l : List Int) (hb : ∀ x ∈ l, 0 ≤ x ∧ x ≤ 1000000) (hl : l.length ≤ 1000) : rateSum N l = some l.sum := by
  unfold rateSum
  have := sum_shape (N := N) l hb (by omega) (by omega)
  have this' : loopN (fun rec3 x => rateSum_b1 N l rec3 x.1 x.2.1 x.2.2) N (0, (l.length : Int), 0) = some l.sum := this
  rw [this']; rfl

theorem ravg_loop {b : Ref07Book} (v : Val b) {k w : Int} (hw : 1 ≤ w ∧ w ≤ 30) {a : Int × Int} (ha : Bd 100 a) :
    loopN (fun rec3 x => rateReadAverage_b1 N (mapOf b) w k rec3 x.1 x.2.1 x.2.2) N (0, a.1, a.2) = some (tot b k w a) := by
  have := loop_list (N := N) (B := fun rec3 x => rateReadAverage_b1 N (mapOf b) w k rec3 x.1 x.2.1 x.2.2) (0 :: weeks (w - 1).toNat) (fun i (a : Int × Int) => ((i : Int), a.1, a.2)) (fun r a => some (r.foldl (accW b k) a)) (fun i a => Bd (100 + 3 * i) a)
    (fun a rec _ => by
      show rateReadAverage_b1 N (mapOf b) w k rec _ a.1 a.2 = _
      unfold rateReadAverage_b1
      have : ¬ (((0 :: weeks (w - 1).toNat).length : Int) < w) := by rw [List.length_cons, weeks_len]; omega
      rw [decide_eq_false this]
      rfl)
    (fun i x a rec hx hok h => by
      have hlt := len_lt hx
      rw [List.length_cons, weeks_len] at hlt
      have ex : x = (i : Int) := by
        cases i with
        | zero => simpa using hx.symm
        | succ i => rw [List.getElem?_cons_succ] at hx; have := (weeks_get hx).1; omega
      subst ex
      show rateReadAverage_b1 N (mapOf b) w k rec (i : Int) a.1 a.2 = _
      unfold rateReadAverage_b1
      simp only [show ((i : Int) < w) from by omega, decide_true, if_true, mgt, map_of, Option.bind_some, w64_succ (i := i) (by omega), List.foldl_cons]
      have hb := accW_bd (k := k) v hok (i : Int)
      have hb' : Bd (100 + 3 * ((i + 1 : Nat) : Int)) (accW b k a (i : Int)) := by
        obtain ⟨q1, q2, q3, q4⟩ := hb
        exact ⟨q1, by omega, q3, q4⟩
      rw [← h _ hb']
      unfold accW at hb ⊢
      obtain ⟨h1, h2, h3, h4⟩ := hok
      cases ho : of b k (i : Int) with
      | none => rfl
      | some s =>
        have hg := of_games v ho
        rw [ho] at hb
        obtain ⟨q1, q2, q3, q4⟩ := hb
        simp only [Option.map_some, Option.isSome_some, Option.getD_some, if_true]
        have e : (cs s).fGames = s.fGames := rfl
        rw [e, sum_eq hN _ (by intro x hx; simp only [List.mem_cons, List.not_mem_nil, or_false] at hx; rcases hx with rfl | rfl | rfl <;> omega) (by simp), Option.bind_some]
        have hs : ([s.fGames.a0, s.fGames.a1, s.fGames.a2] : List Int).sum = gsum s.fGames := by simp [gsum, Int.add_assoc]
        rw [hs]
        have hgs : 0 ≤ gsum s.fGames ∧ gsum s.fGames ≤ 900 := by unfold gsum; omega
        rw [sum_eq hN _ (by intro x hx; simp only [List.mem_cons, List.not_mem_nil, or_false] at hx; rcases hx with rfl | rfl <;> omega) (by simp), Option.bind_some]
        have hs2 : ([a.2, gsum s.fGames] : List Int).sum = a.2 + gsum s.fGames := by simp
        rw [hs2, Option.bind_some, w64_id (by omega) (by omega)]) (by rw [List.length_cons, weeks_len]; omega) a (by simpa using ha)
  have e0 : accW b k a 0 = a := by unfold accW; rw [of_zero v (by omega)]
  rw [show ((0 : Int), a.1, a.2) = (((0 : Nat) : Int), a.1, a.2) from rfl, this, List.foldl_cons, e0]
  rfl

theorem bow_idx {b : Ref07Book} {k : Int} (hk : 0 ≤ k ∧ k ≤ (b.fBowlers.length : Int) - 1) : idx b.fBowlers k = some (bow b k) := by
  have h : k.toNat < b.fBowlers.length := by omega
  refine idx_int hk.1 ?_
  unfold bow
  simp [h]

theorem avg_fin {b : Ref07Book} (v : Val b) {k w : Int} (hk : 0 ≤ k ∧ k ≤ (b.fBowlers.length : Int) - 1) (hw : 1 ≤ w ∧ w ≤ 30) {a : Int × Int} (ha : Bd 100 a) :
    (if decide ((tot b k w a).1 < b.fLaw.fLeast) then Option.bind (idx b.fBowlers k) fun x => some x else Option.bind (nz (tot b k w a).1) fun _ => some (w64 (Int.tdiv (tot b k w a).2 (tot b k w a).1))) = some (avg b k w a) := by
  have hb := avg_bd (k := k) v hw.2 ha
  unfold avg at *
  have hl := val_law v
  by_cases h : (tot b k w a).1 < b.fLaw.fLeast
  · simp [h, bow_idx hN hk]
  · simp only [h, decide_false, Bool.false_eq_true, if_false] at hb ⊢
    rw [nz_ok (by omega), Option.bind_some, w64_id (by omega) (by omega)]

theorem ravg {b : Ref07Book} (v : Val b) {k w : Int} (hk : 0 ≤ k ∧ k ≤ (b.fBowlers.length : Int) - 1) (hw : 1 ≤ w ∧ w ≤ 30) (bes : List Int) (hb : ∀ x ∈ bes, 0 ≤ x ∧ x ≤ 300) (hl : bes.length ≤ 100) (c1 c2 c3 c5 : Int) (c7 : List RateSheet) (c8 : List Int) :
    rateReadAverage N k w bes c1 c2 c3 b.fLaw.fLeast c5 b.fBowlers c7 c8 (mapOf b) = some (avg b k w ((bes.length : Int), bes.sum)) := by
  unfold rateReadAverage rateReadCounting
  have hs := sum_bd (B := 300) (by omega) bes hb
  rw [sum_eq hN bes (fun x hx => by have := hb x hx; omega) (by omega)]
  simp only [Option.bind_some]
  have ha : Bd 100 ((bes.length : Int), bes.sum) := ⟨by simp, by simp; omega, hs.1, hs.2⟩
  have := ravg_loop hN v (k := k) hw ha
  rw [this]
  simp only [Option.bind_some]
  exact avg_fin hN v hk hw ha

theorem ravg0 {b : Ref07Book} (v : Val b) {k w : Int} (hk : 0 ≤ k ∧ k ≤ (b.fBowlers.length : Int) - 1) (hw : 1 ≤ w ∧ w ≤ 30) (c1 c2 c3 c5 : Int) (c7 : List RateSheet) (c8 : List Int) :
    rateReadAverage N k w [] c1 c2 c3 b.fLaw.fLeast c5 b.fBowlers c7 c8 (mapOf b) = some (avg b k w (0, 0)) := by
  have := ravg hN v hk hw [] (by simp) (by simp) c1 c2 c3 c5 c7 c8
  simpa using this

theorem rhcp {b : Ref07Book} (v : Val b) {k w : Int} (hk : 0 ≤ k ∧ k ≤ (b.fBowlers.length : Int) - 1) (hw : 1 ≤ w ∧ w ≤ 30) (c5 : Int) (c7 : List RateSheet) (c8 : List Int) :
    rateReadHandicap N k w b.fLaw.fBase b.fLaw.fPercent b.fLaw.fCap b.fLaw.fLeast c5 b.fBowlers c7 c8 (mapOf b) = some (hcp b k w) := by
  unfold rateReadHandicap hcp
  have ha := avg_bd (k := k) (w := w) v hw.2 (n := 0) (a := (0, 0)) ⟨by simp, by simp, by simp, by simp⟩
  have hl := val_law v
  rw [ravg0 hN v hk hw, Option.bind_some]
  generalize avg b k w (0, 0) = A at *
  have hm := mul_bd (x := b.fLaw.fBase - A) (p := b.fLaw.fPercent) (by omega) hl.2.1
  rw [w64_id (n := b.fLaw.fBase - A) (by omega) (by omega)]
  have ht := tdiv_bd (x := (b.fLaw.fBase - A) * b.fLaw.fPercent) (B := 30000) hm
  rw [w64_id (n := (b.fLaw.fBase - A) * b.fLaw.fPercent) (by omega) (by omega), w64_id (by omega) (by omega)]

/-! The document. -/
theorem refavg {b : Ref07Book} (v : Val b) {k w : Int} (hk : 0 ≤ k ∧ k ≤ (b.fBowlers.length : Int) - 1) (hw : 1 ≤ w ∧ w ≤ 30) {g s : Int} (ha : Bd 100 (g, s)) : ref07Average N b k w g s = some (avg b k w (g, s)) := by
  unfold ref07Average
  have := loop_list (N := N) (B := fun rec3 x => ref07Average_b1 N b k w rec3 x.1 x.2.1 x.2.2) (weeks (w - 1).toNat) (fun i (a : Int × Int) => (a.1, a.2, (i : Int) + 1)) (fun r a => some (r.foldl (accW b k) a)) (fun i a => Bd (100 + 3 * i) a)
    (fun a rec _ => by
      show ref07Average_b1 N b k w rec a.1 a.2 _ = _
      unfold ref07Average_b1
      have : ¬ (((weeks (w - 1).toNat).length : Int) + 1 < w) := by rw [weeks_len]; omega
      rw [decide_eq_false this]
      rfl)
    (fun i x a rec hx hok h => by
      obtain ⟨ex, hlt⟩ := weeks_get hx
      subst ex
      show ref07Average_b1 N b k w rec a.1 a.2 ((i : Int) + 1) = _
      unfold ref07Average_b1
      have hs1 : w64 ((i : Int) + 1 + 1) = ((i + 1 : Nat) : Int) + 1 := by rw [w64_id (by omega) (by omega)]; omega
      simp only [show ((i : Int) + 1 < w) from by omega, decide_true, if_true, rof_eq hN v, Option.bind_some, hs1, List.foldl_cons]
      have hb := accW_bd (k := k) v hok ((i : Int) + 1)
      have hb' : Bd (100 + 3 * ((i + 1 : Nat) : Int)) (accW b k a ((i : Int) + 1)) := by
        obtain ⟨q1, q2, q3, q4⟩ := hb
        exact ⟨q1, by omega, q3, q4⟩
      rw [← h _ hb']
      unfold accW at hb ⊢
      obtain ⟨h1, h2, h3, h4⟩ := hok
      cases ho : of b k ((i : Int) + 1) with
      | none => rfl
      | some s =>
        have hg := of_games v ho
        rw [ho] at hb
        obtain ⟨q1, q2, q3, q4⟩ := hb
        simp only [gms, if_true, Option.bind_some]
        rw [w64_id (n := a.1 + 3) (by omega) (by omega), w64_id (n := a.2 + s.fGames.a0) (by omega) (by omega), w64_id (n := a.2 + s.fGames.a0 + s.fGames.a1) (by omega) (by omega), w64_id (by omega) (by omega)]
        simp only [gsum, Int.add_assoc]) (by rw [weeks_len]; omega) (g, s) (by simpa using ha)
  have this' : loopN (fun rec3 x => ref07Average_b1 N b k w rec3 x.1 x.2.1 x.2.2) N (g, s, 1) = some (tot b k w (g, s)) := this
  rw [this']
  simp only [Option.bind_some]
  exact avg_fin hN v hk hw ha

omit hN in
theorem bd0 {n : Int} (h : 0 ≤ n) : Bd n (0, 0) := ⟨by simp, by simpa using h, by simp, by simp⟩

theorem refhcp {b : Ref07Book} (v : Val b) {k w : Int} (hk : 0 ≤ k ∧ k ≤ (b.fBowlers.length : Int) - 1) (hw : 1 ≤ w ∧ w ≤ 30) : ref07Handicap N b k w = some (hcp b k w) := by
  unfold ref07Handicap hcp
  have ha := avg_bd (k := k) (w := w) v hw.2 (n := 0) (bd0 (by omega))
  have hl := val_law v
  rw [refavg hN v hk hw (bd0 (by omega)), Option.bind_some]
  generalize avg b k w (0, 0) = A at *
  have hm := mul_bd (x := b.fLaw.fBase - A) (p := b.fLaw.fPercent) (by omega) hl.2.1
  have ht := tdiv_bd (x := (b.fLaw.fBase - A) * b.fLaw.fPercent) (B := 30000) hm
  rw [w64_id (n := b.fLaw.fBase - A) (by omega) (by omega), w64_id (n := (b.fLaw.fBase - A) * b.fLaw.fPercent) (by omega) (by omega), w64_id (by omega) (by omega)]
  by_cases h : b.fLaw.fBase - A ≤ 0
  · simp only [h, decide_true, if_true]
    have : Int.tdiv ((b.fLaw.fBase - A) * b.fLaw.fPercent) 100 ≤ 0 := by
      have h1 : (b.fLaw.fBase - A) * b.fLaw.fPercent ≤ 0 := Int.mul_nonpos_of_nonpos_of_nonneg h hl.2.1.1
      have e : Int.tdiv ((b.fLaw.fBase - A) * b.fLaw.fPercent) 100 = -(Int.tdiv (-((b.fLaw.fBase - A) * b.fLaw.fPercent)) 100) := by rw [Int.neg_tdiv]; omega
      rw [e, Int.tdiv_eq_ediv_of_nonneg (by omega)]
      have : 0 ≤ (-((b.fLaw.fBase - A) * b.fLaw.fPercent)) / 100 := by omega
      omega
    congr 1; omega
  · simp only [h, decide_false, Bool.false_eq_true, if_false]
    have : 0 ≤ Int.tdiv ((b.fLaw.fBase - A) * b.fLaw.fPercent) 100 := by
      have h1 : 0 ≤ (b.fLaw.fBase - A) * b.fLaw.fPercent := Int.mul_nonneg (by omega) hl.2.1.1
      rw [Int.tdiv_eq_ediv_of_nonneg h1]; omega
    congr 1; omega

/-! Asked. -/
def inBook (b : Ref07Book) (k w : Int) : Bool := inr k 0 ((b.fBowlers.length : Int) - 1) && inr w 1 30
def ask (b : Ref07Book) (k w : Int) : Int := if flt b = 0 then (if inBook b k w then 0 else 2) else flt b

theorem lask_eq (b : Ref07Book) (hb : b.fBowlers.length ≤ 1000) (k w : Int) : law07Asked N b k w = some (ask b k w) := by
  unfold law07Asked ask inBook
  rw [lfault_eq hN, Option.bind_some]
  by_cases h : flt b = 0
  · simp only [h, decide_true, Bool.not_true, Bool.false_eq_true, if_false, in_eq, Option.bind_some, if_true]
    rw [w64_id (by omega) (by omega)]
    by_cases q1 : inr k 0 ((b.fBowlers.length : Int) - 1) = true <;> by_cases q2 : inr w 1 30 = true <;> simp [q1, q2]
  · simp [h]

theorem asked_eq (b : Ref07Book) (hb : b.fBowlers.length ≤ 1000) (k w : Int) : rateBookAsked N (cb b) k w = some (if flt b = 0 then .inr (ask b k w, b.fLaw.fBase, b.fLaw.fPercent, b.fLaw.fCap, b.fLaw.fLeast, b.fLaw.fBlind, b.fBowlers, b.fSheets.map cs, b.fWithdrawn, mapOf b) else .inl (flt b)) := by
  unfold rateBookAsked ask inBook
  rw [read_eq hN, Option.bind_some]
  by_cases h : flt b = 0
  · simp only [h, if_true, decide_true, bowler_eq hN (cb b) hb, Option.bind_some, week_eq]
    have e : (cb b).fBowlers = b.fBowlers := rfl
    rw [e]
    by_cases q1 : inr k 0 ((b.fBowlers.length : Int) - 1) = true <;> by_cases q2 : inr w 1 30 = true <;> simp [q1, q2]
  · simp [h]

omit hN in
theorem ask_zero {b : Ref07Book} {k w : Int} : ask b k w = 0 ↔ Val b ∧ (0 ≤ k ∧ k ≤ (b.fBowlers.length : Int) - 1) ∧ 1 ≤ w ∧ w ≤ 30 := by
  unfold ask inBook
  rw [← flt_zero]
  by_cases h : flt b = 0
  · rw [if_pos h, ← inr_iff, ← inr_iff]
    by_cases q1 : inr k 0 ((b.fBowlers.length : Int) - 1) = true <;> by_cases q2 : inr w 1 30 = true <;> simp [q1, q2, h]
  · rw [if_neg h]; simp [h]

theorem average_eq (b : Ref07Book) (hb : b.fBowlers.length ≤ 1000) (k w : Int) : rateAverage N (cb b) k w = some (if ask b k w = 0 then (avg b k w (0, 0), 0) else (0, ask b k w)) := by
  unfold rateAverage
  rw [asked_eq hN b hb, Option.bind_some]
  by_cases h : flt b = 0
  · rw [if_pos h]
    simp only
    by_cases h2 : ask b k w = 0
    · have := ask_zero.1 h2
      simp only [h2, decide_true, Bool.not_true, Bool.false_eq_true, if_false, if_true]
      rw [ravg0 hN this.1 this.2.1 this.2.2]; rfl
    · simp [h2]
  · have h2 : ask b k w = flt b := by unfold ask; rw [if_neg h]
    rw [if_neg h, h2]
    simp [h]

theorem handicap_eq (b : Ref07Book) (hb : b.fBowlers.length ≤ 1000) (k w : Int) : rateHandicap N (cb b) k w = some (if ask b k w = 0 then (hcp b k w, 0) else (0, ask b k w)) := by
  unfold rateHandicap
  rw [asked_eq hN b hb, Option.bind_some]
  by_cases h : flt b = 0
  · rw [if_pos h]
    simp only
    by_cases h2 : ask b k w = 0
    · have := ask_zero.1 h2
      simp only [h2, decide_true, Bool.not_true, Bool.false_eq_true, if_false, if_true]
      rw [rhcp hN this.1 this.2.1 this.2.2]; rfl
    · simp [h2]
  · have h2 : ask b k w = flt b := by unfold ask; rw [if_neg h]
    rw [if_neg h, h2]
    simp [h]
end
end Go.Proofs.Ytmencjafjcmbaaa
