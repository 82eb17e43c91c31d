/-
 The law TopSeeded: the teams of a league are seeds of a knock-out.
-/
import Derived.Test.YtignpdbcgjllkaaGreatPX
import Derived.Test.YtignpdbcgjllkaaGreatDTopSeeded
set_option linter.all false
namespace Go.Proofs.YtignpdbcgjllkaaGreat
open Go.Kp
set_option maxRecDepth 100000
theorem rank_ok : leagueRank 2097152 ⟨2, [⟨0, 1, 5, 6, false⟩]⟩ [1] = some ([2, 1], 0) := by decide +kernel
def duR : RateBook := ⟨⟨0, 0, 0, 1, 0⟩, [70, 60], [], []⟩
theorem sort_ok : sortI 2097152 [0, 1] = some [0, 1] := by
 unfold sortI
 rw [if_pos (by decide), List.mergeSort_of_pairwise (by decide)]
theorem teams_ok : rateBookTeams 2097152 duR [0] [1] = some 0 := by
 have h1 : slicesConcat 2097152 [[0], [1]] = some [0, 1] := by decide +kernel
 have h2 : rateAllXXX 2097152 duR [0, 1] = some true := by decide +kernel
 have h3 : rateRisingX 2097152 [0, 1] = some true := by decide +kernel
 unfold rateBookTeams
 rw [h1]
 simp -implicitDefEqProofs only [h2, h3, sort_ok, Option.bind_some]
 rfl
theorem read_ok : rateBookRead 2097152 duR = some (0, 0, 0, 0, 1, 0, [70, 60], [], [], []) := by kernel_rfl
theorem rate_ok : rateMatch 2097152 duR 1 [0] [1] = some (8, 0, 0) := by
 have h1 : rateMatch1 2097152 [0] 1 0 0 0 1 0 [70, 60] [] [] [] = some [70, 70, 70, 210] := by decide +kernel
 have h2 : rateMatch1 2097152 [1] 1 0 0 0 1 0 [70, 60] [] [] [] = some [60, 60, 60, 180] := by decide +kernel
 have h3 : loopN (fun rec3 x => rateMatch_b1 2097152 [70, 70, 70, 210] [60, 60, 60, 180] rec3 x.1 x.2.1 x.2.2) 2097152 (0, (([70, 70, 70, 210] : List Int).length : Int), 0) = some 8 := by decide +kernel
 have h4 : rateWeek 2097152 1 = some true := by decide +kernel
 unfold rateMatch
 rw [read_ok]
 simp -implicitDefEqProofs only [teams_ok, h1, h2, h4, Option.bind_some, decide_true, if_true, Bool.not_true, Bool.false_eq_true, if_false]
 rw [h3]
 rfl
def duC : Ref09Cup := ⟨0, 2, 1, [⟨0, [1], false⟩]⟩
theorem du_w : L.winner duC = (1, 0) := by decide +kernel
theorem dueled_true : kingpintopDueled 2097152 = some true := by
 unfold kingpintopDueled
 have h2 := L.winner_eq (N := 2097152) (by omega) duC (by decide)
 rw [du_w] at h2
 rw [show (⟨0, 2, 1, [⟨0, [1], false⟩]⟩ : LadderCup) = L.cc duC from rfl, show (⟨⟨0, 0, 0, 1, 0⟩, [70, 60], [], []⟩ : RateBook) = duR from rfl]
 simp -implicitDefEqProofs only [rate_ok, rank_ok, h2, Option.bind_some]
 rfl
def play (f : Int) (P : Nat) : Nat → List Ref09Result
 | 0 => []
 | k + 1 => match L.nexts ⟨f, (P : Int), 1, play f P k⟩ with
  | [] => play f P k
  | x :: _ => play f P k ++ [⟨x.fNumber, [min x.fFirst x.fSecond], false⟩]
def cup (f : Int) (P k : Nat) : Ref09Cup := ⟨f, (P : Int), 1, play f P k⟩
def plB (f : Int) (P : Nat) : Bool := ((List.range (P - 1)).all fun k => decide (L.flt (cup f P k) = 0) && !(L.nexts (cup f P k)).isEmpty && decide ((play f P k).length = k) && ((play f P k).all fun r => decide (r.fGames.length ≤ 1))) && (decide ((play f P (P - 1)).length = P - 1) && ((play f P (P - 1)).all fun r => decide (r.fGames.length ≤ 1)) && decide (L.winner (cup f P (P - 1)) = (0, 0)) && decide ((L.ups (cup f P 0) ((P : Int) - 1)).2 = 0) && decide (1 ≤ (L.ups (cup f P 0) ((P : Int) - 1)).1))
theorem pl_ok : ∀ P, P < 7 → 2 ≤ P → plB 0 P = true ∧ plB 1 P = true := by decide +kernel
structure Pl (f : Int) (P : Nat) : Prop where
 each : ∀ k, k < P - 1 → L.flt (cup f P k) = 0 ∧ L.nexts (cup f P k) ≠ [] ∧ (play f P k).length = k ∧ ∀ r ∈ play f P k, r.fGames.length ≤ 1
 len : (play f P (P - 1)).length = P - 1
 gm : ∀ r ∈ play f P (P - 1), r.fGames.length ≤ 1
 win : L.winner (cup f P (P - 1)) = (0, 0)
 ups2 : (L.ups (cup f P 0) ((P : Int) - 1)).2 = 0
 ups1 : 1 ≤ (L.ups (cup f P 0) ((P : Int) - 1)).1
theorem pl_get {f : Int} (hf : f = 0 ∨ f = 1) {P : Nat} (h2 : 2 ≤ P) (h6 : P ≤ 6) : Pl f P := by
 have h : plB f P = true := by
  rcases hf with rfl | rfl
  ·exact (pl_ok P (by omega) h2).1
  ·exact (pl_ok P (by omega) h2).2
 unfold plB at h
 simp only [Bool.and_eq_true, List.all_eq_true, List.mem_range, decide_eq_true_eq, Bool.not_eq_true', List.isEmpty_eq_false_iff] at h
 obtain ⟨h1, ⟨⟨⟨h2, h3⟩, h4⟩, h5⟩, h6⟩ := h
 exact ⟨fun k hk => ⟨(h1 k hk).1.1.1, (h1 k hk).1.1.2, (h1 k hk).1.2, (h1 k hk).2⟩, h2, h3, h4, h5, h6⟩
def part (R : List Int) (T : Nat) (rank : Int) : List Int := ((List.range T).filter fun n => decide (R[n]? = some rank)).map fun (n : Nat) => (n : Int)
def sdl (R : List Int) (T : Nat) : List Int := (List.range T).flatMap fun (r : Nat) => part R T ((r : Int) + 1)
theorem part_len (R : List Int) (T : Nat) (rank : Int) : (part R T rank).length ≤ T := by
 unfold part
 rw [List.length_map]
 have := List.length_filter_le (fun n => decide (R[n]? = some rank)) (List.range T)
 rwa [List.length_range] at this
theorem sum_ind : ∀ (T : Nat) (v : Int), ((List.range T).map fun (r : Nat) => if v = (r : Int) + 1 then 1 else 0).sum = if 1 ≤ v ∧ v ≤ T then 1 else 0
 | 0, v => by rw [if_neg (by omega)]; rfl
 | T + 1, v => by
  rw [List.range_succ, List.map_append, List.sum_append, sum_ind T v]
  simp only [List.map_cons, List.map_nil, List.sum_cons, List.sum_nil, Nat.add_zero]
  by_cases h1 : 1 ≤ v ∧ v ≤ T
  ·rw [if_pos h1, if_neg (by omega), if_pos ⟨h1.1, by omega⟩]
  ·by_cases h2 : v = (T : Int) + 1
   ·rw [if_neg h1, if_pos h2, if_pos ⟨by omega, by omega⟩]
   ·rw [if_neg h1, if_neg h2, if_neg (by omega)]
theorem sum_add {α : Type} (f g : α → Nat) : ∀ l : List α, (l.map fun x => f x + g x).sum = (l.map f).sum + (l.map g).sum
 | [] => rfl
 | x :: l => by
  have := sum_add f g l
  simp only [List.map_cons, List.sum_cons, this]; omega
theorem sdl_len {R : List Int} {T : Nat} (h : ∀ n, n < T → ∃ v, R[n]? = some v ∧ 1 ≤ v ∧ v ≤ T) : (sdl R T).length = T := by
 have key : ∀ ts : List Nat, (∀ n ∈ ts, ∃ v, R[n]? = some v ∧ 1 ≤ v ∧ v ≤ T) → ((List.range T).map fun (r : Nat) => (ts.filter fun n => decide (R[n]? = some ((r : Int) + 1))).length).sum = ts.length := by
  intro ts
  induction ts with
  | nil =>
   intro _
   have : ∀ n : Nat, ((List.range n).map fun (r : Nat) => ([].filter fun n => decide (R[n]? = some ((r : Int) + 1)) : List Nat).length).sum = 0 := by
    intro n
    induction n with
    | zero => rfl
    | succ n ih => rw [List.range_succ, List.map_append, List.sum_append, ih]; rfl
   exact this T
  | cons t ts ih =>
   intro h
   obtain ⟨v, hv, h1, h2⟩ := h t (by simp)
   have ih := ih fun n hn => h n (by simp [hn])
   have e : ((List.range T).map fun (r : Nat) => ((t :: ts).filter fun n => decide (R[n]? = some ((r : Int) + 1))).length) = (List.range T).map fun (r : Nat) => (if v = (r : Int) + 1 then 1 else 0) + (ts.filter fun n => decide (R[n]? = some ((r : Int) + 1))).length := by
    refine List.map_congr_left fun r _ => ?_
    rw [List.filter_cons, hv]
    by_cases e : v = (r : Int) + 1
    ·rw [if_pos (by simpa using e), if_pos e, List.length_cons]; omega
    ·rw [if_neg (by simpa using e), if_neg e]; omega
   rw [e, sum_add, sum_ind, if_pos ⟨h1, h2⟩, ih, List.length_cons]; omega
 unfold sdl
 rw [List.length_flatMap]
 have := key (List.range T) fun n hn => h n (List.mem_range.1 hn)
 rw [List.length_range] at this
 refine (congrArg List.sum (List.map_congr_left fun r _ => ?_)).trans this
 unfold part; rw [List.length_map]
theorem sdl_head {R : List Int} {T : Nat} (hT : 0 < T) (h : ∃ n, n < T ∧ R[n]? = some 1) : ∃ s : Nat, s < T ∧ R[s]? = some 1 ∧ (sdl R T)[0]? = some (s : Int) := by
 obtain ⟨n, hn, hR⟩ := h
 obtain ⟨M, rfl⟩ : ∃ M, T = M + 1 := ⟨T - 1, by omega⟩
 have e : sdl R (M + 1) = part R (M + 1) 1 ++ ((List.range' 1 M).flatMap fun (r : Nat) => part R (M + 1) ((r : Int) + 1)) := by
  unfold sdl
  rw [List.range_eq_range', List.range'_succ, List.flatMap_cons]; rfl
 have hm : (n : Int) ∈ part R (M + 1) 1 := List.mem_map.2 ⟨n, List.mem_filter.2 ⟨List.mem_range.2 hn, by simpa using hR⟩, rfl⟩
 cases hp : part R (M + 1) 1 with
 | nil => rw [hp] at hm; cases hm
 | cons a b =>
  have ha : a ∈ part R (M + 1) 1 := by rw [hp]; simp
  obtain ⟨s, hs, hsa⟩ := List.mem_map.1 ha
  have hs := List.mem_filter.1 hs
  refine ⟨s, List.mem_range.1 hs.1, by simpa using hs.2, ?_⟩
  rw [e, hp, hsa]; rfl
section
variable {N : Nat} (hN : 4000 ≤ N)
include hN
theorem b1_eq {l : Ref08League} {T : Nat} (hT : l.fTeams = (T : Int)) (h6 : T ≤ 6) {R : List Int} (hR : R.length = T) (rank : Int) (l0 : List Int) (hl : l0.length ≤ 100) :
  loopN (fun rec16 x => kingpintopTopSeeded_b1 N l R rank rec16 x.1 x.2) N (0, l0) = some (l0 ++ part R T rank) := by
 have := loop_list (N := N) (B := fun rec16 x => kingpintopTopSeeded_b1 N l R rank rec16 x.1 x.2) (List.range T) (fun i (a : List Int) => ((i : Int), a)) (fun r a => some (a ++ (r.filter fun n => decide (R[n]? = some rank)).map fun (n : Nat) => (n : Int))) (fun i a => a.length ≤ 100 + i)
  (fun a rec _ => by
   show kingpintopTopSeeded_b1 N l R rank rec _ a = _
   unfold kingpintopTopSeeded_b1
   rw [if_neg (by rw [hT]; simp)]; simp)
  (fun i x a rec hx hok h => by
   have hlt := len_lt hx
   rw [List.length_range] at hlt
   rw [List.getElem?_range hlt] at hx
   cases hx
   obtain ⟨v, hv⟩ : ∃ v, R[i]? = some v := ⟨_, List.getElem?_eq_getElem (by omega)⟩
   show kingpintopTopSeeded_b1 N l R rank rec _ a = _
   unfold kingpintopTopSeeded_b1
   rw [if_pos (decide_eq_true (by rw [hT]; omega)), idx_at hv, Option.bind_some, List.filter_cons, hv, w64_succ (by omega)]
   by_cases e : v = rank
   ·rw [if_pos (decide_eq_true e), if_pos (by simpa using e), app_ok (by simp; omega)]
    simp only [Option.bind_some]
    rw [h _ (by simp; omega)]; simp
   ·rw [if_neg (by simpa using e), if_neg (by simpa using e)]
    simp only [Option.bind_some]
    rw [h _ (by omega)]) (by simp; omega) l0 hl
 exact this
theorem b2_eq {l : Ref08League} {T : Nat} (hT : l.fTeams = (T : Int)) (h6 : T ≤ 6) {R : List Int} (hR : R.length = T) :
  loopN (fun rec14 x => kingpintopTopSeeded_b2 N l R rec14 x.1 x.2) N (1, []) = some (sdl R T) := by
 have := loop_list (N := N) (B := fun rec14 x => kingpintopTopSeeded_b2 N l R rec14 x.1 x.2) (List.range T) (fun i (a : List Int) => (((i + 1 : Nat) : Int), a)) (fun r a => some (a ++ r.flatMap fun (r : Nat) => part R T ((r : Int) + 1))) (fun i a => a.length ≤ 6 * i)
  (fun a rec _ => by
   show kingpintopTopSeeded_b2 N l R rec _ a = _
   unfold kingpintopTopSeeded_b2
   rw [if_neg (by rw [hT]; simp; omega)]; simp)
  (fun i x a rec hx hok h => by
   have hlt := len_lt hx
   rw [List.length_range] at hlt
   rw [List.getElem?_range hlt] at hx
   cases hx
   have hp := part_len R T ((i : Int) + 1)
   show kingpintopTopSeeded_b2 N l R rec _ a = _
   unfold kingpintopTopSeeded_b2
   rw [if_pos (decide_eq_true (by rw [hT]; omega)), b1_eq hN hT h6 hR _ a (by omega), Option.bind_some, w64_succ (i := i + 1) (by omega)]
   rw [h _ (by simp only [List.length_append]; have := part_len R T (((i + 1 : Nat) : Int)); omega), List.flatMap_cons, List.append_assoc]; rfl) (by simp; omega) [] (by simp)
 simpa [sdl] using this
theorem sz_of {f : Int} {P k : Nat} (h1 : (play f P k).length = k) (h2 : ∀ r ∈ play f P k, r.fGames.length ≤ 1) (hk : k ≤ 1000) : L.Sz (cup f P k) := ⟨by show (play f P k).length ≤ 1000; omega, fun r hr => by have := h2 r hr; omega⟩
theorem b3_eq {f : Int} {P : Nat} (hp : Pl f P) (h2 : 2 ≤ P) (h6 : P ≤ 6) {l : Ref08League} (hT : l.fTeams = (P : Int)) :
  loopN (fun rec18 x => kingpintopTopSeeded_b3 N l rec18 x.1 x.2.1 x.2.2) N (0, f, []) = some (f, play f P (P - 1)) := by
 have key : ∀ (d fuel k : Nat), P - 1 - k = d → k ≤ P - 1 → d < fuel → loopN (fun rec18 x => kingpintopTopSeeded_b3 N l rec18 x.1 x.2.1 x.2.2) fuel ((k : Int), f, play f P k) = some (f, play f P (P - 1)) := by
  intro d
  induction d with
  | zero =>
   intro fuel k hd hk hf
   obtain ⟨g, rfl⟩ : ∃ g, fuel = g + 1 := ⟨fuel - 1, by omega⟩
   have : k = P - 1 := by omega
   subst this
   show kingpintopTopSeeded_b3 N l _ _ _ _ = _
   unfold kingpintopTopSeeded_b3
   rw [hT, w64_id (by omega) (by omega), if_neg (by simpa using (show ¬ ((P - 1 : Nat) : Int) < (P : Int) - 1 from by omega))]
  | succ d ih =>
   intro fuel k hd hk hf
   obtain ⟨g, rfl⟩ : ∃ g, fuel = g + 1 := ⟨fuel - 1, by omega⟩
   obtain ⟨a1, a2, a3, a4⟩ := hp.each k (by omega)
   have hs := sz_of hN a3 a4 (by omega)
   show kingpintopTopSeeded_b3 N l (loopN _ g) (k : Int) f (play f P k) = _
   rw [kingpintopTopSeeded_b3, hT, w64_id (n := (P : Int) - 1) (by omega) (by omega), if_pos (decide_eq_true (by omega))]
   rw [show (⟨f, (P : Int), 1, play f P k⟩ : Ref09Cup) = cup f P k from rfl, L.cup_eq hN _ hs, Option.bind_some, L.next_eq hN _ hs.r, if_pos a1, Option.bind_some]
   cases hx : L.nexts (cup f P k) with
   | nil => exact absurd hx a2
   | cons x r =>
    have hd0 : decide ((((x :: r).length : Nat) : Int) = 0) = false := decide_eq_false (by simp; omega)
    simp only [decide_true, Bool.not_true, Bool.false_eq_true, if_false, hd0, Option.bind_some]
    rw [show idx (x :: r) 0 = some x from rfl, Option.bind_some, app_ok (by simp; omega), Option.bind_some, w64_succ (by omega)]
    have e : play f P k ++ [⟨x.fNumber, [min x.fFirst x.fSecond], false⟩] = play f P (k + 1) := by
     rw [play]
     rw [show L.nexts ⟨f, (P : Int), 1, play f P k⟩ = x :: r from hx]
    rw [e]
    exact ih g (k + 1) (by omega) (by omega) (by omega)
 exact key (P - 1) N 0 (by omega) (by omega) (by omega)
theorem k4_true (hd : kingpintopDueled N = some true) {l : Ref08League} (hl : l.fGames.length ≤ 1000) (hv : S.Val (S.cl l)) {rules : List Int} (hlen : rules.length ≤ 6) (hr : ∀ c ∈ rules, 1 ≤ c ∧ c ≤ 4) {form : Int} (hf : 0 ≤ form ∧ form ≤ 255) :
  kingpintopTopSeeded_k4 N l rules form = some true := by
 have ht := hv.t
 have ht' : 2 ≤ l.fTeams ∧ l.fTeams ≤ 6 := ht
 obtain ⟨T, hT⟩ : ∃ T : Nat, l.fTeams = (T : Int) := ⟨l.fTeams.toNat, by omega⟩
 have hTc : (S.cl l).fTeams = (T : Int) := hT
 have hff : Int.tmod form 2 = 0 ∨ Int.tmod form 2 = 1 := by rw [Int.tmod_eq_emod_of_nonneg hf.1]; omega
 have hp := pl_get hff (P := T) (by omega) (by omega)
 have hR := S.ranks_len (S.cl l).fGames T rules
 have hbd := fun n hn => S.ranks_bd hv (T := T) (by omega) rules (n := n) hn
 obtain ⟨g, ⟨n0, hn0, hg0⟩, hiff, hgood⟩ := S.ranks_one hv (T := T) (by omega) rules
 obtain ⟨s, hs, hs1, hs0⟩ := sdl_head (R := S.ranks (S.cl l).fGames T rules) (T := T) (by omega) ⟨n0, hn0, (hiff n0 hn0).2 hg0⟩
 have hsl := sdl_len (R := S.ranks (S.cl l).fGames T rules) (T := T) hbd
 have hrk := S.rank_eq hN hv hTc hlen hr
 have hsd := b2_eq hN hT (by omega) hR
 generalize S.ranks (S.cl l).fGames T rules = R at *
 generalize sdl R T = SL at *
 unfold kingpintopTopSeeded_k4
 rw [S.league_eq hN l hl, Option.bind_some, app_ok (by simp; omega), Option.bind_some, List.nil_append, hrk, Option.bind_some]
 have e1 : ((R.length : Nat) : Int) = l.fTeams := by rw [hT, hR]
 have e2 : ((SL.length : Nat) : Int) = l.fTeams := by rw [hT, hsl]
 show Option.bind (if !decide ((0 : Int) = 0) then some true else some (!decide (((R.length : Nat) : Int) = l.fTeams))) _ = _
 rw [if_neg (by decide), e1, show (some (!decide (l.fTeams = l.fTeams)) : Option Bool) = some false from by simp, Option.bind_some, if_neg (by decide), hsd, Option.bind_some, e2, if_neg (by simp)]
 have hs00 : L.Sz (cup (Int.tmod form 2) T 0) := ⟨by show (0 : Nat) ≤ 1000; omega, fun r hr => by cases hr⟩
 have hsE : L.Sz (cup (Int.tmod form 2) T (T - 1)) := sz_of hN hp.len hp.gm (by omega)
 have c0 : (⟨Int.tmod form 2, l.fTeams, 1, []⟩ : Ref09Cup) = cup (Int.tmod form 2) T 0 := by rw [hT]; rfl
 have cE : (⟨Int.tmod form 2, l.fTeams, 1, play (Int.tmod form 2) T (T - 1)⟩ : Ref09Cup) = cup (Int.tmod form 2) T (T - 1) := by rw [hT]; rfl
 have hw : w64 (l.fTeams - 1) = (T : Int) - 1 := by rw [hT, w64_id (by omega) (by omega)]
 obtain ⟨u, hu1, hu⟩ : ∃ u : Int, 1 ≤ u ∧ L.ups (cup (Int.tmod form 2) T 0) ((T : Int) - 1) = (u, 0) := ⟨_, hp.ups1, by rw [← hp.ups2]⟩
 rw [c0, L.cup_eq hN _ hs00, Option.bind_some, hw, L.upsets_eq hN _ hs00.r, hu, Option.bind_some]
 simp only
 rw [b3_eq hN hp (by omega) (by omega) hT, Option.bind_some]
 simp only
 rw [cE, L.cup_eq hN _ hsE, Option.bind_some, L.winner_eq hN _ hsE.r, hp.win, Option.bind_some]
 have hi0 : idx SL 0 = some (s : Int) := idx_int (Int.le_refl _) hs0
 have hi1 : idx R (s : Int) = some 1 := idx_at hs1
 show Option.bind (if !decide ((0 : Int) = 0) then some true else if decide (u < 1) then some true else if !decide ((0 : Int) = 0) then some true else if decide ((0 : Int) < 0) then some true else if decide (l.fTeams ≤ 0) then some true else Option.bind (idx SL 0) fun x179 => Option.bind (idx R x179) fun x180 => some (!decide (x180 = 1))) _ = _
 rw [hi0, Option.bind_some, hi1, Option.bind_some, if_neg (by decide), if_neg (by simpa using (show ¬ u < 1 from by omega)), if_neg (by decide), if_neg (by decide), if_neg (by simpa using (show ¬ l.fTeams ≤ 0 from by omega)),
  show (some (!decide ((1 : Int) = 1)) : Option Bool) = some false from rfl, Option.bind_some, if_neg (by decide), S.ropen_eq hN l hl, Option.bind_some]
 have fin : ∀ v : Bool, (v = true → (∀ x ∈ l.fGames, x.fOpen = false) ∧ ∃ rs, rules = 1 :: rs) → (Option.bind (if v then Option.bind (leagueCanFirst N (S.cl l) (s : Int)) fun (ra42, rb42) => Option.bind (if !decide (rb42 = 0) then some true else some (!ra42)) fun v48 => if v48 then none else some () else some ()) fun _ => Option.bind (kingpintopDueled N) fun r72 => some r72) = some true := by
  intro v hv'
  cases v with
  | false => simp [hd]
  | true =>
   obtain ⟨hcl, rs, hrs⟩ := hv' rfl
   have hcl' : ∀ x ∈ (S.cl l).fGames, x.fOpen = false := fun x hx => by
    obtain ⟨y, hy, rfl⟩ := List.mem_map.1 hx
    exact hcl y hy
   have hfirst := S.first_eq hN hv hcl' (t := (s : Int)) ⟨by omega, by rw [hTc]; omega⟩ fun y h0 h1 => by
    have := hgood 1 rs hrs rfl s ((hiff s hs).1 hs1) y (S.mem_teams.2 ⟨h0, by rw [hTc] at h1; exact h1⟩)
    exact this
   simp [hfirst, hd]
 by_cases ho : ((l.fGames.filter (·.fOpen)).length : Int) = 0
 ·have hall : ∀ x ∈ l.fGames, x.fOpen = false := fun x hx => by
   have := List.filter_eq_nil_iff.1 (List.eq_nil_of_length_eq_zero (by omega : (l.fGames.filter (·.fOpen)).length = 0)) x hx
   simpa using this
  rw [if_pos (decide_eq_true ho)]
  cases rules with
  | nil =>
   rw [if_neg (by simp)]
   simp only [Option.bind_some]
   exact fin false (fun h => by cases h)
  | cons c rs =>
   rw [if_pos (by simp <;> omega), show idx (c :: rs) 0 = some c from rfl]
   simp only [Option.bind_some]
   refine fin (decide (c = 1)) fun h => ⟨hall, rs, by rw [of_decide_eq_true h]⟩
 ·rw [if_neg (by simpa using ho)]
  simp only [Option.bind_some]
  exact fin false (fun h => by cases h)
end
theorem seeded_true {N : Nat} (hN : N = 2097152) (l : Ref08League) (rules : List Int) (form : Int) (_ : ∀ x ∈ rules, 0 ≤ x ∧ x ≤ 255) (hf : 0 ≤ form ∧ form ≤ 255) : kingpintopTopSeeded N l rules form = some true := by
 have hd : kingpintopDueled N = some true := by rw [hN]; exact dueled_true
 replace hN : 4000 ≤ N := by omega
 unfold kingpintopTopSeeded
 rw [S.thin_eq hN, Option.bind_some]
 by_cases h1 : l.fGames.length ≤ 24
 rotate_left
 ·simp [h1, hd]
 rw [decide_eq_true h1]
 simp only [Bool.not_true, Bool.false_eq_true, if_false]
 rw [S.fault_eq hN l (by omega), Option.bind_some]
 by_cases h2 : (if 20 < l.fGames.length then 3 else if S.inr l.fTeams 2 6 then (if l.fGames.all (fun g => S.gok l.fTeams (S.cg g)) then 0 else 1) else 1 : Int) = 0
 rotate_left
 ·rw [if_pos (by simpa using h2)]; simp [hd]
 have hv := S.val_of h2
 rw [h2]
 by_cases h3 : (6 : Int) < (rules.length : Int)
 ·simp [h3, hd]
 simp only [h3, decide_true, decide_false, Bool.not_true, Bool.false_eq_true, if_false, Option.bind_some]
 have := loop_list0 (N := N) (B := fun rec19 x => kingpintopTopSeeded_b5 N l rules form rec19 x) rules (fun i => (i : Int)) (fun r => if r.all (fun c => decide (1 ≤ c ∧ c ≤ 4)) then kingpintopTopSeeded_k4 N l rules form else some true)
  (fun rec => by unfold kingpintopTopSeeded_b5; simp)
  (fun i x rec hx h => by
   have hlt := len_lt hx
   unfold kingpintopTopSeeded_b5
   simp only [show ((i : Int) < (rules.length : Int)) from by omega, decide_true, if_true, idx_at hx, Option.bind_some, w64_succ (i := i) (by omega), h, hd]
   rw [List.all_cons]
   by_cases e1 : x < 1
   ·have : ¬ (1 ≤ x ∧ x ≤ 4) := by omega
    simp [e1, this]
   ·by_cases e2 : 4 < x
    ·have : ¬ (1 ≤ x ∧ x ≤ 4) := by omega
     simp [e1, e2, this]
    ·have : 1 ≤ x ∧ x ≤ 4 := by omega
     simp [e1, e2, this]) (by omega)
 have e : loopN (fun rec19 x => kingpintopTopSeeded_b5 N l rules form rec19 x) N 0 = (if rules.all (fun c => decide (1 ≤ c ∧ c ≤ 4)) then kingpintopTopSeeded_k4 N l rules form else some true) := this
 rw [e]
 by_cases hall : rules.all (fun c => decide (1 ≤ c ∧ c ≤ 4)) = true
 ·rw [if_pos hall]
  exact k4_true hN hd (by omega) hv (by omega) (fun c hc => of_decide_eq_true (List.all_eq_true.1 hall c hc)) hf
 ·rw [if_neg hall]
end Go.Proofs.YtignpdbcgjllkaaGreat
