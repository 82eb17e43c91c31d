/-
  The law FrameWins, typed, is true.
-/
import Derived.Test.YthjafigloabfpaaPAheads
import Derived.Test.YthjafigloabfpaaDFrameWins
set_option linter.all false
namespace Go.Proofs.Ythjafigloabfpaa
open Go.Kp

/-- a game that is done: its span is its final count -/
theorem rng_done {l : Ref01Law} {s : List Int} (hd : (acc l s).s.f = l.fFrames) : rng l s = ⟨(acc l s).tot, (acc l s).tot⟩ := by
  unfold rng G
  rw [if_pos hd]; simp

theorem outL_mem (p : Nat → FrameRange → Bool) : ∀ (xs : List FrameRange) (i : Nat) (v : Int), v ∈ outL p i xs ↔ ∃ (q : Nat) (x : FrameRange), xs[q]? = some x ∧ v = ((i + q : Nat) : Int) ∧ p (i + q) x = true
  | [], i, v => by simp [outL]
  | x :: xs, i, v => by
    have ih := outL_mem p xs (i + 1) v
    unfold outL
    rw [List.mem_append, ih]
    constructor
    · rintro (h | ⟨q, y, h1, h2, h3⟩)
      · split at h
        · rename_i hp
          simp at h
          exact ⟨0, x, rfl, by simpa using h, by simpa using hp⟩
        · simp at h
      · exact ⟨q + 1, y, by simpa using h1, by omega, by rwa [show i + (q + 1) = i + 1 + q by omega]⟩
    · rintro ⟨q, y, h1, h2, h3⟩
      cases q with
      | zero =>
        simp at h1 h3
        subst h1
        left; rw [if_pos h3]; simp; simpa using h2
      | succ q => exact .inr ⟨q, y, by simpa using h1, by omega, by rwa [show i + 1 + q = i + (q + 1) by omega]⟩

/-- the greatest -/
theorem max_ex : ∀ (xs : List Int), xs ≠ [] → ∃ (q : Nat) (m : Int), xs[q]? = some m ∧ ∀ (j : Nat) y, xs[j]? = some y → y ≤ m
  | [], h => absurd rfl h
  | [x], _ => ⟨0, x, rfl, fun j y hy => by cases j with | zero => simp at hy; omega | succ j => simp at hy⟩
  | x :: y :: xs, _ => by
    obtain ⟨q, m, h1, h2⟩ := max_ex (y :: xs) (by simp)
    by_cases h : m ≤ x
    · refine ⟨0, x, rfl, fun j z hz => ?_⟩
      cases j with
      | zero => simp at hz; omega
      | succ j => have := h2 j z (by simpa using hz); omega
    · refine ⟨q + 1, m, by simpa using h1, fun j z hz => ?_⟩
      cases j with
      | zero => simp at hz; omega
      | succ j => exact h2 j z (by simpa using hz)

def mays (R : List FrameRange) : List Int := outL (fun _ x => mayA x R) 0 R
def sures (R : List FrameRange) : List Int := outL (fun i x => mayA x R && sureL i x 0 R) 0 R

theorem mays_mem {R : List FrameRange} {v : Int} : v ∈ mays R ↔ ∃ (q : Nat) (x : FrameRange), R[q]? = some x ∧ v = (q : Int) ∧ ∀ (k : Nat) o, R[k]? = some o → o.fLo ≤ x.fHi := by
  unfold mays
  rw [outL_mem]
  constructor
  · rintro ⟨q, x, h1, h2, h3⟩; exact ⟨q, x, h1, by simpa using h2, (mayA_iff x R).1 h3⟩
  · rintro ⟨q, x, h1, h2, h3⟩; exact ⟨q, x, h1, by simpa using h2, (mayA_iff x R).2 h3⟩
theorem sures_mem {R : List FrameRange} (hw : ∀ o ∈ R, o.fLo ≤ o.fHi) {v : Int} : v ∈ sures R ↔ ∃ (q : Nat) (x : FrameRange), R[q]? = some x ∧ v = (q : Int) ∧ ∀ (k : Nat) o, R[k]? = some o → k = q ∨ o.fHi < x.fLo := by
  unfold sures
  rw [sure_same hw, outL_mem]
  constructor
  · rintro ⟨q, x, h1, h2, h3⟩; exact ⟨q, x, h1, by simpa using h2, fun k o hk => by have := (sureL_iff (0 + q) x R 0).1 h3 k o hk; omega⟩
  · rintro ⟨q, x, h1, h2, h3⟩; exact ⟨q, x, h1, by simpa using h2, (sureL_iff (0 + q) x R 0).2 fun k o hk => by have := h3 k o hk; omega⟩

theorem mays_some {R : List FrameRange} (hw : ∀ o ∈ R, o.fLo ≤ o.fHi) (hne : R ≠ []) : mays R ≠ [] := by
  obtain ⟨q, m, h1, h2⟩ := max_ex (R.map (·.fHi)) (by simpa using hne)
  simp only [List.getElem?_map, Option.map_eq_some_iff] at h1
  obtain ⟨x, hx, rfl⟩ := h1
  have : (q : Int) ∈ mays R := mays_mem.2 ⟨q, x, hx, rfl, fun k o hk => by
    have h3 := h2 k o.fHi (by simp [hk])
    have := hw o (List.mem_of_getElem? hk)
    omega⟩
  intro e; rw [e] at this; cases this

/-- lists of places, rising -/
theorem outL_rise (p : Nat → FrameRange → Bool) : ∀ (xs : List FrameRange) (i : Nat), (outL p i xs).Pairwise (· < ·) ∧ ∀ v ∈ outL p i xs, (i : Int) ≤ v
  | [], i => ⟨.nil, by simp [outL]⟩
  | x :: xs, i => by
    obtain ⟨h1, h2⟩ := outL_rise p xs (i + 1)
    unfold outL
    split
    · refine ⟨?_, ?_⟩
      · simp only [List.cons_append, List.nil_append, List.pairwise_cons]
        exact ⟨fun v hv => by have := h2 v hv; omega, h1⟩
      · intro v hv
        simp at hv
        rcases hv with rfl | hv
        · omega
        · have := h2 v hv; omega
    · exact ⟨by simpa using h1, fun v hv => by have := h2 v (by simpa using hv); omega⟩
theorem rise_eq : ∀ {a b : List Int}, a.Pairwise (· < ·) → b.Pairwise (· < ·) → (∀ v, v ∈ a ↔ v ∈ b) → a = b
  | [], [], _, _, _ => rfl
  | [], y :: b, _, _, h => by have := (h y).2 (by simp); simp at this
  | x :: a, [], _, _, h => by have := (h x).1 (by simp); simp at this
  | x :: a, y :: b, ha, hb, h => by
    rw [List.pairwise_cons] at ha hb
    have e : x = y := by
      have h1 := (h x).1 (by simp)
      have h2 := (h y).2 (by simp)
      rcases List.mem_cons.1 h1 with e | h1
      · exact e
      · rcases List.mem_cons.1 h2 with e | h2
        · exact e.symm
        · have := hb.1 x h1; have := ha.1 y h2; omega
    subst e
    rw [rise_eq ha.2 hb.2 fun v => ?_]
    constructor
    · intro hv
      have := (h v).1 (by simp [hv])
      rcases List.mem_cons.1 this with e | this
      · subst e; have := ha.1 v hv; omega
      · exact this
    · intro hv
      have := (h v).2 (by simp [hv])
      rcases List.mem_cons.1 this with e | this
      · subst e; have := hb.1 v hv; omega
      · exact this

theorem sure_one {R : List FrameRange} (hw : ∀ o ∈ R, o.fLo ≤ o.fHi) {u v : Int} (hu : u ∈ sures R) (hv : v ∈ sures R) : u = v := by
  obtain ⟨q, x, h1, rfl, h3⟩ := (sures_mem hw).1 hu
  obtain ⟨q', x', h1', rfl, h3'⟩ := (sures_mem hw).1 hv
  have a := h3 q' x' h1'
  have b := h3' q x h1
  have w1 := hw x (List.mem_of_getElem? h1)
  have w2 := hw x' (List.mem_of_getElem? h1')
  omega
theorem sures_len {R : List FrameRange} (hw : ∀ o ∈ R, o.fLo ≤ o.fHi) : (sures R).length ≤ 1 := by
  cases h : sures R with
  | nil => simp
  | cons u a =>
    cases a with
    | nil => simp
    | cons v a =>
      exfalso
      have e := sure_one hw (u := u) (v := v) (by rw [h]; simp) (by rw [h]; simp)
      have := (outL_rise (fun i x => mayA x R && sureL i x 0 R) R 0).1
      have h' : outL (fun i x => mayA x R && sureL i x 0 R) 0 R = u :: v :: a := h
      rw [h', List.pairwise_cons] at this
      have := this.1 v (by simp)
      omega
/-- who is sure to win may, alone -/
theorem sure_alone {R : List FrameRange} (hw : ∀ o ∈ R, o.fLo ≤ o.fHi) (h1 : (sures R).length = 1) : mays R = sures R := by
  refine rise_eq (outL_rise _ R 0).1 (outL_rise _ R 0).1 fun v => ?_
  obtain ⟨u, hu⟩ := List.length_eq_one_iff.1 h1
  have hus : u ∈ sures R := by rw [hu]; simp
  obtain ⟨q, x, a1, a2, a3⟩ := (sures_mem hw).1 hus
  have w1 := hw x (List.mem_of_getElem? a1)
  constructor
  · intro hv
    obtain ⟨q', x', b1, rfl, b3⟩ := mays_mem.1 hv
    have c := b3 q x a1
    have d := a3 q' x' b1
    have w2 := hw x' (List.mem_of_getElem? b1)
    have : q' = q := by omega
    subst this
    show (q' : Int) ∈ sures R
    rw [hu]; simp; exact a2.symm
  · intro hv
    have e : v = u := by have : v ∈ sures R := hv; rw [hu] at this; simpa using this
    subst e
    refine mays_mem.2 ⟨q, x, a1, a2, fun k o hk => ?_⟩
    have w2 := hw o (List.mem_of_getElem? hk)
    rcases a3 k o hk with e | e
    · subst e; rw [a1] at hk; cases hk; exact w1
    · omega

/-- sheets that end, and their ends -/
structure Whole (l : Ref01Law) (ss ws : List (List Int)) : Prop where
  len : ws.length = ss.length
  at_ : ∀ (j : Nat) s w, ss[j]? = some s → ws[j]? = some w → ∃ ext, w = s ++ ext ∧ Ok l (s0 l) w ∧ (acc l w).s.f = l.fFrames

def best1 (T : List Int) (b : Int) (first : List Int) : Prop := first.Pairwise (· < ·) ∧ (∀ v ∈ first, v < T.length) ∧ (∀ v, v ∈ first ↔ ∃ (q : Nat), T[q]? = some b ∧ v = (q : Int)) ∧ (∀ (j : Nat) y, T[j]? = some y → y ≤ b) ∧ (T ≠ [] → 0 ≤ b ∧ ∃ q : Nat, T[q]? = some b)

theorem best1_snoc {T : List Int} {b y : Int} {first : List Int} (h : best1 T b first) (hb : T = [] → b = -1) (hy : 0 ≤ y) :
    best1 (T ++ [y]) (if b < y then y else b) ((if b < y then [] else first) ++ if y = (if b < y then y else b) then [(T.length : Int)] else []) := by
  obtain ⟨h1, h2, h3, h4, h5⟩ := h
  have hat : ∀ (q : Nat) (z : Int), (T ++ [y])[q]? = some z ↔ (q < T.length ∧ T[q]? = some z) ∨ (q = T.length ∧ z = y) := by
    intro q z
    by_cases hq : q < T.length
    · rw [List.getElem?_append_left hq]
      exact ⟨fun h => .inl ⟨hq, h⟩, fun h => h.elim (·.2) fun h => by omega⟩
    · rw [List.getElem?_append_right (by omega)]
      by_cases e : q = T.length
      · subst e
        simp
        exact ⟨fun h => h.symm, fun h => h.symm⟩
      · have : (1 : Nat) ≤ q - T.length := by omega
        rw [List.getElem?_eq_none (by simpa using this)]
        constructor
        · intro h; cases h
        · rintro (h | h) <;> omega
  by_cases hlt : b < y
  · simp only [if_pos hlt, if_true, List.nil_append]
    refine ⟨by simp, fun v hv => ?_, fun v => ?_, fun j z hz => ?_, fun _ => ⟨hy, T.length, (hat _ _).2 (.inr ⟨rfl, rfl⟩)⟩⟩
    · simp at hv; subst hv; simp; omega
    · constructor
      · intro hv
        simp at hv
        exact ⟨T.length, (hat _ _).2 (.inr ⟨rfl, rfl⟩), hv⟩
      · rintro ⟨q, hq, rfl⟩
        rcases (hat q y).1 hq with ⟨a, c⟩ | ⟨a, _⟩
        · have := h4 q y c; omega
        · simp [a]
    · rcases (hat j z).1 hz with ⟨a, c⟩ | ⟨a, c⟩
      · have := h4 j z c; omega
      · omega
  · simp only [if_neg hlt]
    by_cases he : y = b
    · rw [if_pos he]
      refine ⟨?_, fun v hv => ?_, fun v => ?_, fun j z hz => ?_, fun _ => ⟨by omega, T.length, (hat _ _).2 (.inr ⟨rfl, he.symm⟩)⟩⟩
      · rw [List.pairwise_append]
        exact ⟨h1, by simp, fun a ha c hc => by simp at hc; have := h2 a ha; omega⟩
      · rcases List.mem_append.1 hv with hv | hv
        · have := h2 v hv; simp; omega
        · simp at hv; subst hv; simp; omega
      · rw [List.mem_append, h3]
        constructor
        · rintro (⟨q, hq, rfl⟩ | hv)
          · exact ⟨q, (hat _ _).2 (.inl ⟨(List.getElem?_eq_some_iff.1 hq).1, hq⟩), rfl⟩
          · simp at hv; exact ⟨T.length, (hat _ _).2 (.inr ⟨rfl, he.symm⟩), hv⟩
        · rintro ⟨q, hq, rfl⟩
          rcases (hat q b).1 hq with ⟨_, c⟩ | ⟨a, _⟩
          · exact .inl ⟨q, c, rfl⟩
          · right; simp [a]
      · rcases (hat j z).1 hz with ⟨a, c⟩ | ⟨a, c⟩
        · exact h4 j z c
        · omega
    · rw [if_neg he, List.append_nil]
      have hne : T ≠ [] := by
        intro e
        have := hb e
        omega
      obtain ⟨h6, q0, hq0⟩ := h5 hne
      refine ⟨h1, fun v hv => by have := h2 v hv; simp; omega, fun v => ?_, fun j z hz => ?_, fun _ => ⟨h6, q0, (hat _ _).2 (.inl ⟨(List.getElem?_eq_some_iff.1 hq0).1, hq0⟩)⟩⟩
      · rw [h3]
        constructor
        · rintro ⟨q, hq, rfl⟩
          exact ⟨q, (hat _ _).2 (.inl ⟨(List.getElem?_eq_some_iff.1 hq).1, hq⟩), rfl⟩
        · rintro ⟨q, hq, rfl⟩
          rcases (hat q b).1 hq with ⟨_, c⟩ | ⟨_, c⟩
          · exact ⟨q, c, rfl⟩
          · exact absurd c.symm he
      · rcases (hat j z).1 hz with ⟨a, c⟩ | ⟨a, c⟩
        · exact h4 j z c
        · omega

theorem best1_len {T : List Int} {b : Int} {first : List Int} (h : best1 T b first) : first.length ≤ T.length := by
  have key : ∀ (f : List Int) (n : Nat), f.Pairwise (· < ·) → (∀ v ∈ f, 0 ≤ v ∧ v < n) → f.length ≤ n := by
    intro f n
    induction n generalizing f with
    | zero =>
      intro _ h2
      cases f with
      | nil => simp
      | cons v f => have := h2 v (by simp); omega
    | succ n ih =>
      intro h1 h2
      by_cases hne : f = []
      · subst hne; simp
      · have hd := List.dropLast_concat_getLast hne
        rw [← hd] at h1 h2
        rw [List.pairwise_append] at h1
        have := ih f.dropLast h1.1 fun v hv => by
          have a := h2 v (by simp [hv])
          have b := h1.2.2 v hv (f.getLast hne) (by simp)
          have c := h2 (f.getLast hne) (by simp)
          omega
        rw [List.length_dropLast] at this
        have := List.length_pos_iff.2 hne
        omega
  refine key _ _ h.1 fun v hv => ⟨?_, h.2.1 v hv⟩
  obtain ⟨q, _, rfl⟩ := (h.2.2.1 v).1 hv
  omega

section
variable {l : Ref01Law} (hV : V l) {ss ws : List (List Int)} (hn : ss.length ≤ 6) (hne : ss ≠ []) (hk : ∀ s ∈ ss, Ok l (s0 l) s) (hw : Whole l ss ws)
include hV hn hne hk hw

theorem ws_ok : ∀ w ∈ ws, Ok l (s0 l) w ∧ (acc l w).s.f = l.fFrames := by
  intro w hm
  obtain ⟨j, hj⟩ := List.mem_iff_getElem?.1 hm
  have hl := (List.getElem?_eq_some_iff.1 hj).1
  have hl2 : j < ss.length := by rw [← hw.len]; exact hl
  have hs : ss[j]? = some ss[j] := List.getElem?_eq_getElem (by rw [← hw.len]; exact hl)
  obtain ⟨_, _, h1, h2⟩ := hw.at_ j _ _ hs hj
  exact ⟨h1, h2⟩

theorem wide : ∀ (j : Nat) s w, ss[j]? = some s → ws[j]? = some w → (rng l s).fLo ≤ (acc l w).tot ∧ (acc l w).tot ≤ (rng l s).fHi := by
  intro j s w h1 h2
  obtain ⟨ext, rfl, h3, h4⟩ := hw.at_ j s w h1 h2
  have hks := hk s (List.mem_of_getElem? h1)
  have hA := ainv hV hks
  have hext : Ok l (acc l s).s ext := by rw [acc_s]; exact ((ok_app l _ _ _).1 h3).2
  have := ending_in hV ext (inv2_A hA) hext
  have hrun : run l (acc l s).s ext = (acc l (s ++ ext)).s := by rw [acc_s, acc_s, run_app]
  have hge : G l (acc l (s ++ ext)).s = 0 := by unfold G; rw [if_pos h4]
  rw [hrun, hge] at this
  have ht := acc_tot_app l s ext
  simp only [rng]
  omega

theorem mflt_ss : mflt l ss = 0 := by
  unfold mflt
  rw [if_neg (by simp [hV]), if_neg (by
    rintro (h | ⟨s, h1, h2⟩)
    · omega
    · have := ok_len hV (hk s h1); omega), if_neg (by intro e; exact hne (List.length_eq_zero_iff.1 e)), if_pos hk]
theorem mflt_ws : mflt l ws = 0 := by
  have ho := ws_ok hV hn hne hk hw
  unfold mflt
  rw [if_neg (by simp [hV]), if_neg (by
    rintro (h | ⟨s, h1, h2⟩)
    · have := hw.len; omega
    · have := ok_len hV (ho s h1).1; omega), if_neg (by intro e; rw [hw.len] at e; exact hne (List.length_eq_zero_iff.1 e)), if_pos fun w h => (ho w h).1]

theorem rw_w : ∀ o ∈ ws.map (rng l), o.fLo ≤ o.fHi := by
  intro o ho
  obtain ⟨w, h1, rfl⟩ := List.mem_map.1 ho
  have := G_bd hV (inv2_A (ainv hV (ws_ok hV hn hne hk hw w h1).1))
  simp only [rng]; omega

theorem rw_at {q : Nat} {x : FrameRange} : (ws.map (rng l))[q]? = some x ↔ ∃ y, (ws.map fun w => (acc l w).tot)[q]? = some y ∧ x = ⟨y, y⟩ := by
  simp only [List.getElem?_map, Option.map_eq_some_iff]
  constructor
  · rintro ⟨w, h1, rfl⟩
    exact ⟨_, ⟨w, h1, rfl⟩, rng_done (ws_ok hV hn hne hk hw w (List.mem_of_getElem? h1)).2⟩
  · rintro ⟨y, ⟨w, h1, rfl⟩, rfl⟩
    exact ⟨w, h1, rng_done (ws_ok hV hn hne hk hw w (List.mem_of_getElem? h1)).2⟩

/-- the winners -/
theorem winners {b : Int} {first : List Int} (hb : best1 (ws.map fun w => (acc l w).tot) b first) : mays (ws.map (rng l)) = first := by
  refine rise_eq (outL_rise _ _ 0).1 hb.1 fun v => ?_
  have hwr := rw_w hV hn hne hk hw
  have hwne : (ws.map fun w => (acc l w).tot) ≠ [] := by
    intro e
    rw [List.map_eq_nil_iff] at e
    have := hw.len
    rw [e] at this
    exact hne (List.length_eq_zero_iff.1 this.symm)
  obtain ⟨_, q0, hq0⟩ := hb.2.2.2.2 hwne
  rw [mays_mem, hb.2.2.1]
  constructor
  · rintro ⟨q, x, h1, rfl, h3⟩
    obtain ⟨y, h4, rfl⟩ := (rw_at hV hn hne hk hw).1 h1
    have h5 := h3 q0 ⟨b, b⟩ ((rw_at hV hn hne hk hw).2 ⟨b, hq0, rfl⟩)
    have h6 := hb.2.2.2.1 q y h4
    simp only at h5
    have : y = b := by omega
    subst this
    exact ⟨q, h4, rfl⟩
  · rintro ⟨q, h1, rfl⟩
    refine ⟨q, ⟨b, b⟩, (rw_at hV hn hne hk hw).2 ⟨b, h1, rfl⟩, rfl, fun k o ho => ?_⟩
    obtain ⟨y, h4, rfl⟩ := (rw_at hV hn hne hk hw).1 ho
    exact hb.2.2.2.1 k y h4

theorem one_winner {b : Int} {first : List Int} (hb : best1 (ws.map fun w => (acc l w).tot) b first) : (sures (ws.map (rng l))).length = 1 ↔ first.length = 1 := by
  have hwr := rw_w hV hn hne hk hw
  have hwin := winners hV hn hne hk hw hb
  constructor
  · intro h
    rw [← hwin, sure_alone hwr h]; exact h
  · intro h
    obtain ⟨u, hu⟩ := List.length_eq_one_iff.1 h
    have hum : u ∈ first := by rw [hu]; simp
    obtain ⟨q, hq, rfl⟩ := (hb.2.2.1 u).1 hum
    have hs : (q : Int) ∈ sures (ws.map (rng l)) := (sures_mem hwr).2 ⟨q, ⟨b, b⟩, (rw_at hV hn hne hk hw).2 ⟨b, hq, rfl⟩, rfl, fun k o ho => by
      obtain ⟨y, h4, rfl⟩ := (rw_at hV hn hne hk hw).1 ho
      by_cases hkq : k = q
      · exact .inl hkq
      · right
        have h5 := hb.2.2.2.1 k y h4
        have h6 : y ≠ b := by
          intro e
          subst e
          have : (k : Int) ∈ first := (hb.2.2.1 _).2 ⟨k, h4, rfl⟩
          rw [hu] at this
          simp at this; omega
        simp only; omega⟩
    have := sures_len hwr
    have : 0 < (sures (ws.map (rng l))).length := List.length_pos_iff.2 (by intro e; rw [e] at hs; cases hs)
    omega

/-- whoever has won may have won before, too -/
theorem won_before {b : Int} {first : List Int} (hb : best1 (ws.map fun w => (acc l w).tot) b first) {v : Int} (hv : v ∈ first) : v ∈ mays (ss.map (rng l)) := by
  obtain ⟨q, hq, rfl⟩ := (hb.2.2.1 v).1 hv
  simp only [List.getElem?_map, Option.map_eq_some_iff] at hq
  obtain ⟨w, hqw, hqt⟩ := hq
  have hql := (List.getElem?_eq_some_iff.1 hqw).1
  have hql2 : q < ss.length := by rw [← hw.len]; exact hql
  have hqs : ss[q]? = some ss[q] := List.getElem?_eq_getElem (by rw [← hw.len]; exact hql)
  refine mays_mem.2 ⟨q, rng l ss[q], by simp [hqs], rfl, fun k o ho => ?_⟩
  simp only [List.getElem?_map, Option.map_eq_some_iff] at ho
  obtain ⟨s, hs, rfl⟩ := ho
  have hkl := (List.getElem?_eq_some_iff.1 hs).1
  have hkl2 : k < ws.length := by rw [hw.len]; exact hkl
  have hkw : ws[k]? = some ws[k] := List.getElem?_eq_getElem (by rw [hw.len]; exact hkl)
  have a := wide hV hn hne hk hw k s ws[k] hs hkw
  have c := wide hV hn hne hk hw q ss[q] w hqs hqw
  have d := hb.2.2.2.1 k (acc l ws[k]).tot (by simp [hkw])
  omega
theorem sure_wins {b : Int} {first : List Int} (hb : best1 (ws.map fun w => (acc l w).tot) b first) {u v : Int} (hu : u ∈ sures (ss.map (rng l))) (hv : v ∈ first) : v = u := by
  have hrs := rng_w hV (show ss.length ≤ 90 by omega) hk
  obtain ⟨q, x, h1, rfl, h3⟩ := (sures_mem hrs).1 hu
  obtain ⟨k, hq, rfl⟩ := (hb.2.2.1 v).1 hv
  by_cases e : k = q
  · rw [e]
  · exfalso
    have hkl := (List.getElem?_eq_some_iff.1 hq).1
    simp at hkl
    have hkl2 : k < ss.length := by rw [← hw.len]; exact hkl
    have hks : ss[k]? = some ss[k] := List.getElem?_eq_getElem (by rw [← hw.len]; exact hkl)
    have hkw : ws[k]? = some ws[k] := List.getElem?_eq_getElem hkl
    simp only [List.getElem?_map, Option.map_eq_some_iff] at h1
    obtain ⟨s, hs, rfl⟩ := h1
    have hql := (List.getElem?_eq_some_iff.1 hs).1
    have hql2 : q < ws.length := by rw [hw.len]; exact hql
    have hqw : ws[q]? = some ws[q] := List.getElem?_eq_getElem (by rw [hw.len]; exact hql)
    rcases h3 k (rng l ss[k]) (by simp [hks]) with e' | e'
    · exact e e'
    · have a := wide hV hn hne hk hw k _ _ hks hkw
      have c := wide hV hn hne hk hw q _ _ hs hqw
      have d := hb.2.2.2.1 q (acc l ws[q]).tot (by simp [hqw])
      simp [hkw] at hq
      omega

theorem wins_b4 {b : Int} {first : List Int} (hb : best1 (ws.map fun w => (acc l w).tot) b first) :
    loopN (fun rec25 x => law01FrameWins_b4 2097152 (mays (ss.map (rng l))) (sures (ss.map (rng l))) first rec25 x) 2097152 0 = some true := by
  have hfl := best1_len hb
  rw [List.length_map, hw.len] at hfl
  have hrs := rng_w hV (show ss.length ≤ 90 by omega) hk
  have hml := outL_len (fun _ x => mayA x (ss.map (rng l))) (ss.map (rng l)) 0
  have hml' : (mays (ss.map (rng l))).length ≤ 6 := by unfold mays; rw [List.length_map] at hml; omega
  have h := loopN_rel (ι := Nat) (b := fun rec25 x => law01FrameWins_b4 2097152 (mays (ss.map (rng l))) (sures (ss.map (rng l))) first rec25 x) (fun i => (i : Int)) (fun _ => some true) (fun i => first.length - i) (fun i => i ≤ first.length) ?_ 2097152 0 (Nat.zero_le _) (by omega)
  · exact h
  · intro i rec hi ih
    try simp only at hi ih ⊢
    unfold law01FrameWins_b4
    by_cases hlt : i < first.length
    · have hx : first[i]? = some first[i] := by simp [hlt]
      have hmem := List.getElem_mem hlt
      rw [if_pos (by simpa using hlt)]
      have hin : loopN (fun rec29 x => law01FrameWins_b3 2097152 (mays (ss.map (rng l))) first (i : Int) rec29 x.1 x.2) 2097152 (false, 0) = some true := by
        have h2 := loopN_rel (ι := Nat × Bool) (b := fun rec29 x => law01FrameWins_b3 2097152 (mays (ss.map (rng l))) first (i : Int) rec29 x.1 x.2) (fun j => (j.2, (j.1 : Int)))
          (fun j => some (j.2 || decide (first[i] ∈ (mays (ss.map (rng l))).drop j.1))) (fun j => (mays (ss.map (rng l))).length - j.1) (fun j => j.1 ≤ (mays (ss.map (rng l))).length) ?_ 2097152 (0, false) (Nat.zero_le _) (by simp only; omega)
        · have hwb := won_before hV hn hne hk hw hb hmem
          simpa [hwb] using h2
        · rintro ⟨k, f⟩ rec2 hk2 ih2
          try simp only at hk2 ih2 ⊢
          unfold law01FrameWins_b3
          by_cases hlt2 : k < (mays (ss.map (rng l))).length
          · have hy : (mays (ss.map (rng l)))[k]? = some (mays (ss.map (rng l)))[k] := by simp [hlt2]
            rw [if_pos (by simpa using hlt2), List.drop_eq_getElem_cons hlt2]
            cases f with
            | true =>
              simp only [if_true, Option.bind_some]
              rw [w64_id (by omega) (by omega)]
              have := ih2 (k + 1, true) (by simp only; omega) (by simp only; omega)
              try simp only at this
              rw [show ((k : Int) + 1) = ((k + 1 : Nat) : Int) by omega, this]
              simp
            | false =>
              simp only [Bool.false_eq_true, if_false]
              rw [idx_at hy, idx_at hx]
              simp -implicitDefEqProofs only [Option.bind_some]
              rw [w64_id (by omega) (by omega)]
              have := ih2 (k + 1, decide ((mays (ss.map (rng l)))[k] = first[i])) (by simp only; omega) (by simp only; omega)
              try simp only at this
              rw [show ((k : Int) + 1) = ((k + 1 : Nat) : Int) by omega, this]
              congr 1
              rw [Bool.false_or, Bool.eq_iff_iff]
              simp only [Bool.or_eq_true, decide_eq_true_eq, List.mem_cons]
              constructor
              · rintro (h | h)
                · exact .inl h.symm
                · exact .inr h
              · rintro (h | h)
                · exact .inl h.symm
                · exact .inr h
          · have : k = (mays (ss.map (rng l))).length := by omega
            subst this
            rw [if_neg (by simp), List.drop_length]
            simp
      rw [hin]
      simp -implicitDefEqProofs only [Option.bind_some]
      rw [if_neg (by decide)]
      have hs : (if decide (((sures (ss.map (rng l))).length : Int) = 1) = true then Option.bind (idx first (i : Int)) fun x401 => Option.bind (idx (sures (ss.map (rng l))) 0) fun x402 => some (!decide (x401 = x402)) else some false) = some false := by
        by_cases h1 : (sures (ss.map (rng l))).length = 1
        · obtain ⟨u, hu⟩ := List.length_eq_one_iff.1 h1
          have hum : u ∈ sures (ss.map (rng l)) := by rw [hu]; simp
          have e := sure_wins hV hn hne hk hw hb hum hmem
          rw [if_pos (by simp [h1]), idx_at hx, hu]
          have : idx [u] 0 = some u := rfl
          simp -implicitDefEqProofs only [Option.bind_some]
          rw [this]
          simp [e]
        · rw [if_neg (by simp; omega)]
      rw [hs]
      simp -implicitDefEqProofs only [Option.bind_some]
      rw [if_neg (by decide)]
      unfold law01FrameWins_k2
      rw [w64_id (by omega) (by omega)]
      have := ih (i + 1) (by omega) (by omega)
      rw [show ((i : Int) + 1) = ((i + 1 : Nat) : Int) by omega]
      exact this
    · rw [if_neg (by simpa using hlt)]
      unfold law01FrameWins_k1
      rw [wakes_ok]; rfl

theorem wins_k5 {b : Int} {first : List Int} (hb : best1 (ws.map fun w => (acc l w).tot) b first) : law01FrameWins_k5 2097152 l ws (mays (ss.map (rng l))) (sures (ss.map (rng l))) first = some true := by
  unfold law01FrameWins_k5
  rw [law_eq]
  simp -implicitDefEqProofs only [Option.bind_some]
  rw [ahead_eq l ws (by have := hw.len; omega), mflt_ws hV hn hne hk hw]
  simp only [if_true, Option.bind_some]
  have e1 : outL (fun _ x => mayA x (ws.map (rng l))) 0 (ws.map (rng l)) = first := winners hV hn hne hk hw hb
  have e2 : outL (fun i x => mayA x (ws.map (rng l)) && sureL i x 0 (ws.map (rng l))) 0 (ws.map (rng l)) = sures (ws.map (rng l)) := rfl
  have hfl := best1_len hb
  rw [List.length_map, hw.len] at hfl
  rw [e1, e2, ints_eq _ _ (by omega)]
  have e3 := one_winner hV hn hne hk hw hb
  have e4 : (decide (((sures (ws.map (rng l))).length : Int) = 1) != decide ((first.length : Int) = 1)) = false := by
    have : decide (((sures (ws.map (rng l))).length : Int) = 1) = decide ((first.length : Int) = 1) := by
      rw [decide_eq_decide]; omega
    rw [this]; simp
  simp only [decide_true, Bool.not_true, Bool.false_eq_true, if_false, Option.bind_some, e4]
  exact wins_b4 hV hn hne hk hw hb

theorem wins_b7 : loopN (fun rec30 x => law01FrameWins_b7 2097152 l ws (mays (ss.map (rng l))) (sures (ss.map (rng l))) rec30 x.1 x.2.1 x.2.2) 2097152 (-1, 0, []) = some true := by
  have h := loopN_rel (ι := Nat × Int × List Int) (b := fun rec30 x => law01FrameWins_b7 2097152 l ws (mays (ss.map (rng l))) (sures (ss.map (rng l))) rec30 x.1 x.2.1 x.2.2) (fun j => (j.2.1, (j.1 : Int), j.2.2)) (fun _ => some true) (fun j => ws.length - j.1)
    (fun j => j.1 ≤ ws.length ∧ best1 ((ws.take j.1).map fun w => (acc l w).tot) j.2.1 j.2.2 ∧ (j.1 = 0 → j.2.1 = -1)) ?_ 2097152 (0, -1, []) ⟨Nat.zero_le _, ⟨.nil, by simp, by simp, by simp, by simp⟩, fun _ => rfl⟩ (by have := hw.len; simp only; omega)
  · exact h
  · rintro ⟨k, b, first⟩ rec ⟨hk2, hb, hb1⟩ ih
    try simp only at hk2 hb hb1 ih ⊢
    have hwl := hw.len
    have f1 := hV.f1
    have f2 := hV.f2
    unfold law01FrameWins_b7
    by_cases hlt : k < ws.length
    · have hx : ws[k]? = some ws[k] := by simp [hlt]
      obtain ⟨ho, hd⟩ := ws_ok hV hn hne hk hw _ (List.getElem_mem hlt)
      have hlen := ok_len hV ho
      have h0 : flt l ws[k] = 0 := flt_ok.2 ⟨hV, by omega, ho⟩
      rw [if_pos (by simpa using hlt), idx_at hx, law_eq]
      simp -implicitDefEqProofs only [Option.bind_some]
      rw [list_eq (by omega)]
      simp -implicitDefEqProofs only [Option.bind_some]
      rw [read_eq l _ (by omega)]
      simp only [h0, if_true, Option.bind_some]
      have hcl : (((gameA l ws[k]).fCounts.length : Nat) : Int) = l.fFrames := done_len hV ho hd
      have hct : idx (gameA l ws[k]).fCounts (l.fFrames - 1) = some (acc l ws[k]).tot := done_last hV ho hd
      rw [if_neg (by decide), hcl]
      simp only [decide_true, Bool.not_true, Bool.false_eq_true, if_false, Option.bind_some]
      rw [w64_id (by omega) (by omega), hct]
      simp -implicitDefEqProofs only [Option.bind_some]
      have htb := acc_tot_bd hV ho
      have hfl := best1_len hb
      have hlk : ((ws.take k).map fun w => (acc l w).tot).length = k := by simp; omega
      have hsn := best1_snoc hb (fun e => hb1 (by
        have := congrArg List.length e
        rw [hlk] at this
        simpa using this)) htb.1
      rw [hlk] at hsn
      have e : (if decide (b < (acc l ws[k]).tot) = true then some ((acc l ws[k]).tot, []) else some (b, first)) = some (if b < (acc l ws[k]).tot then (acc l ws[k]).tot else b, if b < (acc l ws[k]).tot then [] else first) := by
        by_cases h : b < (acc l ws[k]).tot <;> simp [h]
      rw [e]
      simp -implicitDefEqProofs only [Option.bind_some]
      generalize hB : (if b < (acc l ws[k]).tot then (acc l ws[k]).tot else b) = B at hsn ⊢
      generalize hF : (if b < (acc l ws[k]).tot then [] else first) = F at hsn ⊢
      have hFl : F.length ≤ k := by
        rw [← hF]; split
        · simp
        · omega
      have hnext : ∀ F', F' = F ++ (if (acc l ws[k]).tot = B then [(k : Int)] else []) → rec (B, ((k + 1 : Nat) : Int), F') = some true := by
        intro F' hF'
        refine ih (k + 1, B, F') ⟨by simp only; omega, ?_, fun h => by simp only at h; omega⟩ (by simp only; omega)
        simp only
        rw [List.take_succ_eq_append_getElem hlt, List.map_append, hF']
        exact hsn
      unfold law01FrameWins_k6
      rw [w64_id (by omega) (by omega), show ((k : Int) + 1) = ((k + 1 : Nat) : Int) by omega]
      by_cases he : (acc l ws[k]).tot = B
      · rw [if_pos (decide_eq_true he), app1_ok (by omega)]
        simp -implicitDefEqProofs only [Option.bind_some]
        exact hnext _ (by rw [if_pos he])
      · rw [if_neg (by simpa using he)]
        exact hnext _ (by rw [if_neg he, List.append_nil])
    · have : k = ws.length := by omega
      subst this
      rw [if_neg (by simp)]
      rw [List.take_length] at hb
      exact wins_k5 hV hn hne hk hw hb

theorem wins_k8 : law01FrameWins_k8 2097152 l ss ws = some true := by
  unfold law01FrameWins_k8
  rw [law_eq]
  simp -implicitDefEqProofs only [Option.bind_some]
  rw [ahead_eq l ss (by omega), mflt_ss hV hn hne hk hw]
  simp only [if_true, Option.bind_some]
  have hrs := rng_w hV (show ss.length ≤ 90 by omega) hk
  have e1 : outL (fun _ x => mayA x (ss.map (rng l))) 0 (ss.map (rng l)) = mays (ss.map (rng l)) := rfl
  have e2 : outL (fun i x => mayA x (ss.map (rng l)) && sureL i x 0 (ss.map (rng l))) 0 (ss.map (rng l)) = sures (ss.map (rng l)) := rfl
  rw [e1, e2]
  have hmn := mays_some hrs (by simpa using hne)
  have hml := outL_len (fun _ x => mayA x (ss.map (rng l))) (ss.map (rng l)) 0
  have hml' : (mays (ss.map (rng l))).length ≤ 6 := by unfold mays; rw [List.length_map] at hml; omega
  have hmp : 0 < (mays (ss.map (rng l))).length := List.length_pos_iff.2 hmn
  have hsl := sures_len hrs
  rw [if_neg (by decide), if_neg (by rw [decide_eq_true_eq]; omega), if_neg (by rw [decide_eq_true_eq]; omega), ints_eq _ _ (by omega)]
  have e3 : (if decide (((sures (ss.map (rng l))).length : Int) = 1) = true then Option.bind (some (decide (mays (ss.map (rng l)) = sures (ss.map (rng l))))) fun r76 => some (!r76) else some false) = some false := by
    by_cases h1 : (sures (ss.map (rng l))).length = 1
    · rw [if_pos (by simp [h1]), sure_alone hrs h1]; simp
    · rw [if_neg (by rw [decide_eq_true_eq]; omega)]
  rw [e3]
  simp -implicitDefEqProofs only [Option.bind_some]
  rw [if_neg (by decide)]
  exact wins_b7 hV hn hne hk hw
end

theorem wins_ok (l : Ref01Law) (ss : List (List Int)) (words : List Int) (hw : ∀ x ∈ words, 0 ≤ x ∧ x ≤ 255) (hwl : words.length ≤ 140737488351232) : law01FrameWins 2097152 l ss words = some true := by
  unfold law01FrameWins
  rw [wakes_ok]
  by_cases hz : ss.length = 0
  · rw [if_pos (by rw [decide_eq_true_eq]; omega)]; rfl
  · rw [if_neg (by rw [decide_eq_true_eq]; omega)]
    simp -implicitDefEqProofs only [Option.bind_some]
    by_cases h6 : 6 < ss.length
    · rw [if_pos (by rw [decide_eq_true_eq]; omega)]
    · rw [if_neg (by rw [decide_eq_true_eq]; omega)]
      have h := loopN_rel (ι := Nat × List Int × List (List Int)) (b := fun rec31 x => law01FrameWins_b9 2097152 l ss rec31 x.1 x.2.1 x.2.2.1 x.2.2.2) (fun j => (j.2.1, (j.1 : Int), ss.take j.1, j.2.2)) (fun _ => some true) (fun j => ss.length - j.1)
        (fun j => j.1 ≤ ss.length ∧ (∀ x ∈ j.2.1, 0 ≤ x ∧ x ≤ 255) ∧ j.2.1.length ≤ 140737488351232 ∧ (j.1 = 0 ∨ V l) ∧ (∀ s ∈ ss.take j.1, Ok l (s0 l) s) ∧ Whole l (ss.take j.1) j.2.2) ?_ 2097152 (0, words, []) ⟨Nat.zero_le _, hw, hwl, .inl rfl, by simp, ⟨rfl, fun j s w h => by simp at h⟩⟩ (by simp only; omega)
      · exact h
      · rintro ⟨k, wd, ws⟩ rec ⟨hk, hwd, hwdl, hVk, hks, hws⟩ ih
        try simp only at hk hwd hwdl hVk hks hws ih ⊢
        unfold law01FrameWins_b9
        by_cases hlt : k < ss.length
        · have hx : ss[k]? = some ss[k] := by simp [hlt]
          rw [if_pos (by simpa using hlt), idx_at hx, wakes_ok]
          simp -implicitDefEqProofs only [Option.bind_some]
          rw [ready_eq]
          simp -implicitDefEqProofs only [Option.bind_some]
          by_cases hr : V l ∧ ss[k].length ≤ 40 ∧ Ok l (s0 l) ss[k]
          · obtain ⟨hV, hn40, hko⟩ := hr
            rw [if_neg (by simp [hV, hn40, hko]), list_eq (by omega)]
            simp -implicitDefEqProofs only [Option.bind_some]
            rw [app1_ok (by simp; omega)]
            simp -implicitDefEqProofs only [Option.bind_some]
            have hrot : ∃ wd', (if decide (0 < (wd.length : Int)) = true then Option.bind (idx wd 0) fun x467 => Option.bind (slc wd 1 (wd.length : Int)) fun l137 => Option.bind (appB l137 [x467]) fun l138 => some l138 else some wd) = some wd' ∧ (∀ x ∈ wd', 0 ≤ x ∧ x ≤ 255) ∧ wd'.length ≤ 140737488351232 := by
              by_cases hp : 0 < wd.length
              · have hh : wd[0]? = some wd[0] := by simp [hp]
                have hi0 : idx wd 0 = some wd[0] := idx_at hh
                have hsl : slc wd 1 (wd.length : Int) = some (wd.drop 1) := by
                  have := slc_ok (L := wd) (a := 1) (b := wd.length) hp (Nat.le_refl _)
                  simpa using this
                refine ⟨wd.drop 1 ++ [wd[0]], ?_, fun x hx => ?_, by simp; omega⟩
                · rw [if_pos (by simpa using hp), hi0, hsl]
                  simp -implicitDefEqProofs only [Option.bind_some]
                  rw [appB_ok (by simp; omega)]; rfl
                · rcases List.mem_append.1 hx with h | h
                  · exact hwd x (List.mem_of_mem_drop h)
                  · simp at h; subst h; exact hwd _ (List.getElem_mem hp)
              · exact ⟨wd, by rw [if_neg (by simpa using hp)], hwd, hwdl⟩
            obtain ⟨wd', hq1, hq2, hq3⟩ := hrot
            rw [hq1]
            simp -implicitDefEqProofs only [Option.bind_some]
            obtain ⟨ext, he, hkw, hd, _⟩ := ended_eq hV wd' hq2 hko
            rw [he]
            simp -implicitDefEqProofs only [Option.bind_some]
            have hwsl := hws.len
            rw [List.length_take] at hwsl
            rw [app1_ok (by omega), w64_id (by omega) (by omega)]
            simp -implicitDefEqProofs only [Option.bind_some]
            have := ih (k + 1, wd', ws ++ [ss[k] ++ ext]) ⟨by simp only; omega, hq2, hq3, .inr hV, ?_, ?_⟩ (by simp only; omega)
            · try simp only at this
              rw [List.take_succ_eq_append_getElem hlt] at this
              rw [show ((k : Int) + 1) = ((k + 1 : Nat) : Int) by omega]
              exact this
            · simp only
              rw [List.take_succ_eq_append_getElem hlt]
              intro s hs
              rcases List.mem_append.1 hs with h | h
              · exact hks s h
              · simp at h; subst h; exact hko
            · simp only
              rw [List.take_succ_eq_append_getElem hlt]
              refine ⟨by simp; omega, fun j s w hj hjw => ?_⟩
              have htl : (ss.take k).length = k := by simp; omega
              by_cases hjk : j < k
              · rw [List.getElem?_append_left (by omega)] at hj hjw
                exact hws.at_ j s w hj hjw
              · have hjl := (List.getElem?_eq_some_iff.1 hj).1
                simp at hjl
                have e : j = k := by omega
                subst e
                rw [List.getElem?_append_right (by omega), htl] at hj
                rw [List.getElem?_append_right (by omega), show ws.length = j by omega] at hjw
                simp at hj hjw
                subst hj hjw
                exact ⟨ext, rfl, hkw, hd⟩
          · rw [if_pos (by rw [decide_eq_false hr]; rfl)]
        · have : k = ss.length := by omega
          subst this
          rw [if_neg (by simp)]
          rw [List.take_length] at hks hws ⊢
          have hV : V l := by
            rcases hVk with h | h
            · omega
            · exact h
          exact wins_k8 hV (by omega) (by intro e; rw [e] at hz; simp at hz) hks hws
end Go.Proofs.Ythjafigloabfpaa
