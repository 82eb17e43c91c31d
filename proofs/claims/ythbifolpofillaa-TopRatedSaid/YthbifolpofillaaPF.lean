/-
  The program's 'counts' and 'Read'.
-/
import Derived.Test.YthbifolpofillaaPE
set_option linter.all false
namespace Go.Proofs.Ythbifolpofillaa
open Go.Kp

def endsL (a : A) : List Int := a.E.map fun p => (p.1 : Int)
def moresL (a : A) : List Int := a.E.map fun p => (p.2 : Int)

/-- the frames' numbers of balls -/
structure FrL (l : Ref01Law) (s : S) (L : List Int) : Prop where
  len : L.length = l.fFrames.toNat
  cur : s.f < l.fFrames → L[s.f.toNat]? = some s.h
  new : ∀ j : Nat, s.f < j → (j : Int) < l.fFrames → L[j]? = some 0

theorem counts_1 {l : Ref01Law} (hV : V l) {sheet : List Int} (hk : Ok l (s0 l) sheet) (hn : sheet.length ≤ 90) :
    loopN (fun rec3 x => frameLawCounts_b1 2097152 (fl l) sheet rec3 x.1 x.2.1 x.2.2.1 x.2.2.2.1 x.2.2.2.2.1 x.2.2.2.2.2.1 x.2.2.2.2.2.2) 2097152 ((sheet.length : Int), 0, (s0 l).play l, [], [], [], List.replicate l.fFrames.toNat 0) =
      some ((acc l sheet).cs, endsL (acc l sheet), moresL (acc l sheet)) := by
  have h := loopN_rel (ι := Nat × List Int) (b := fun rec3 x => frameLawCounts_b1 2097152 (fl l) sheet rec3 x.1 x.2.1 x.2.2.1 x.2.2.2.1 x.2.2.2.2.1 x.2.2.2.2.2.1 x.2.2.2.2.2.2)
    (fun i => ((sheet.length : Int), (i.1 : Int), (acc l (sheet.take i.1)).s.play l, (acc l (sheet.take i.1)).cs, endsL (acc l (sheet.take i.1)), moresL (acc l (sheet.take i.1)), i.2))
    (fun i => some ((acc l sheet).cs, endsL (acc l sheet), moresL (acc l sheet))) (fun i => sheet.length - i.1) (fun i => i.1 ≤ sheet.length ∧ FrL l (acc l (sheet.take i.1)).s i.2) ?_ 2097152
    (0, List.replicate l.fFrames.toNat 0) ⟨Nat.zero_le _, ?_⟩ (by simp; omega)
  · exact h
  · rintro ⟨i, L⟩ rec ⟨h1, hL⟩ ih
    simp only at h1 hL ih ⊢
    unfold frameLawCounts_b1
    by_cases hlt : i < sheet.length
    · obtain ⟨x, hx, hm, ha⟩ := at_i hk hlt
      have hA := ainv hV (ok_pre hk i)
      have hi := hA.inv
      have hc := cnt_le hV hi hm.2.2
      have hcl : (acc l (sheet.take i)).cs.length = i := by rw [acc_len]; simp; omega
      have ih1 := fun L' => ih (i + 1, L')
      simp only [ha] at ih1
      obtain ⟨hF1, hF2, hF3⟩ := nxtn_f hV hi hm.1 hc.1 hc.2
      rw [if_pos (by simpa using hlt), idx_at hx]
      simp only [Option.bind_some, may_eq hi, hm, decide_true, Bool.not_true, Bool.false_eq_true, if_false]
      rw [next_eq hV hi hm.1 hm.2.2]
      simp only [Option.bind_some]
      generalize acc l (sheet.take i) = a at *
      have ep : (a.s.play l).fAt.fFrame = (a.E.length : Int) := hA.fE.symm
      have ep2 : ((nxt l a.s x).play l).fAt.fFrame = (nxt l a.s x).f := rfl
      have ep3 : (fl l).fFrames = l.fFrames := rfl
      have ep4 : (fl l).fPins = l.fPins := rfl
      have hfE := hA.fE
      have hlen := hA.len
      have hh0 := hi.h0
      have hh : a.s.h = 0 ∨ a.s.h = 1 ∨ a.s.h = 2 := by have := hi.h0; have := hi.hn; have := hi.nd; have := hV.b2; omega
      have hv1 := hV.f1
      have hv2 := hV.f2
      have hle := lastE_le hA.ent
      have hLl : a.E.length < L.length := by rw [hL.len]; have := hm.1; omega
      have hcur : L[a.E.length]? = some a.s.h := by
        have := hL.cur hm.1
        rwa [show a.s.f.toNat = a.E.length by omega] at this
      simp only [ep, ep2, ep3, ep4]
      rw [app_ok (by simp; omega), idx_at hcur]
      simp only [Option.bind_some]
      rw [w64_id (n := (i : Int) + 1) (by omega) (by omega), w64_id (n := a.s.h + 1) (by omega) (by omega), w64_id (n := l.fFrames - 1) (by omega) (by omega)]
      have hset : idx (L.set (Int.toNat (a.E.length : Int)) (a.s.h + 1)) (a.E.length : Int) = some (a.s.h + 1) := by
        rw [Int.toNat_natCast]; exact idx_set_eq hLl
      have hEl : a.E.length ≤ 10 := by have := hi.f1; omega
      by_cases hcl2 : (a.E.length : Int) < (nxt l a.s x).f
      · have hcl3 : a.s.f < (nxtn l a.s (cnt l a.s x)).f := by unfold nxt at hcl2; omega
        obtain ⟨q1, q2, q3⟩ := hF1 hcl3
        rw [if_pos (by simpa using hcl2), app_ok (by simp [endsL]; omega), app_ok (by simp [moresL]; omega), hset]
        simp only [Option.bind_some]
        rw [w64_id (n := (i : Int) + 1 - (a.s.h + 1)) (by omega) (by omega)]
        rw [show ((i : Int) + 1 - (a.s.h + 1)) = ((lastE a.E : Nat) : Int) by omega, slc_ok (by simp; omega) (Nat.le_refl _), List.take_length, drop_snoc hle]
        simp only [Option.bind_some]
        have hbd : ∀ z ∈ a.cs.drop (lastE a.E) ++ [cnt l a.s x], -1000000 ≤ z ∧ z ≤ 1000000 := by
          intro z hz
          rcases List.mem_append.1 hz with hz | hz
          · have := hA.bd z (List.mem_of_mem_drop hz); omega
          · simp at hz; subst hz; have := hi.p1; have := hV.p2; omega
        rw [sum_eq _ (by simp; omega) hbd, sm_app]
        simp only [Option.bind_some]
        have e : (Option.bind (if decide ((a.E.length : Int) < l.fFrames - 1) = true then if decide (sm (a.cs.drop (lastE a.E)) + sm [cnt l a.s x] = l.fPins) = true then some (decide (a.s.h + 1 < 3), L.set (Int.toNat (a.E.length : Int)) (a.s.h + 1)) else some (false, L.set (Int.toNat (a.E.length : Int)) (a.s.h + 1)) else some (false, L.set (Int.toNat (a.E.length : Int)) (a.s.h + 1))) fun (v66, l565) =>
            if v66 = true then Option.bind (idx l565 (a.E.length : Int)) fun x311 => Option.bind (idx (moresL a ++ [0]) (a.E.length : Int)) fun x312 => some (a.cs ++ [cnt l a.s x], endsL a ++ [(i : Int) + 1], List.set (moresL a ++ [0]) (Int.toNat (a.E.length : Int)) (w64 (3 - x311)), l565)
            else some (a.cs ++ [cnt l a.s x], endsL a ++ [(i : Int) + 1], moresL a ++ [0], l565)) =
            some (a.cs ++ [cnt l a.s x], endsL a ++ [(i : Int) + 1], moresL a ++ [(bon l a.s (cnt l a.s x) : Int)], L.set (Int.toNat (a.E.length : Int)) (a.s.h + 1)) := by
          have hml : (moresL a).length = a.E.length := by simp [moresL]
          have hmi : idx (moresL a ++ [0]) (a.E.length : Int) = some 0 := idx_at (by rw [List.getElem?_append_right (by omega)]; simp [hml])
          have hms : ∀ z : Int, List.set (moresL a ++ [0]) (Int.toNat (a.E.length : Int)) z = moresL a ++ [z] := by
            intro z
            rw [Int.toNat_natCast, List.set_append_right _ _ (by omega)]
            simp [hml]
          unfold bon
          by_cases h1 : (a.E.length : Int) < l.fFrames - 1
          · have hne : a.s.f ≠ l.fFrames - 1 := by omega
            have ho := hA.own (by omega)
            rw [if_pos (by simpa using h1), ho]
            by_cases h2 : a.s.p = cnt l a.s x
            · have h2' : l.fPins - a.s.p + sm [cnt l a.s x] = l.fPins := by simp [sm]; omega
              rw [if_pos (by simpa using h2')]
              simp only [Option.bind_some]
              rcases hh with h | h | h
              · rw [h] at hset ⊢
                rw [if_pos (by decide), hset, hmi]
                simp only [Option.bind_some]
                rw [hms]
                simp [hne, h2]; decide
              · rw [h] at hset ⊢
                rw [if_pos (by decide), hset, hmi]
                simp only [Option.bind_some]
                rw [hms]
                simp [hne, h2]; decide
              · rw [h]
                simp [hne, h2]
            · have h2' : ¬ l.fPins - a.s.p + sm [cnt l a.s x] = l.fPins := by simp [sm]; omega
              rw [if_neg (by simpa using h2')]
              simp [h2]
          · have hne : a.s.f = l.fFrames - 1 := by have := hm.1; omega
            rw [if_neg (by simpa using h1)]
            simp [hne]
        obtain ⟨v, r1, r2⟩ := obind e
        rw [r1]
        simp only [Option.bind_some]
        obtain ⟨v66, l565⟩ := v
        simp only at r2 ⊢
        rw [r2]
        simp only [Option.bind_some]
        have := ih1 (L.set (Int.toNat (a.E.length : Int)) (a.s.h + 1)) ⟨by omega, ?_⟩ (by omega)
        · simp only [stepA, endsL, moresL, hfE ▸ hcl2, if_true, List.map_append, List.map_cons, List.map_nil, hcl] at this
          rw [show ((i : Int) + 1) = ((i + 1 : Nat) : Int) by omega]
          exact this
        · refine ⟨by simp [hL.len], fun h3 => ?_, fun j h3 h4 => ?_⟩
          · have e1 : (stepA l a x).s.f = (a.E.length + 1 : Nat) := by show (nxtn l a.s (cnt l a.s x)).f = _; omega
            have e2 : (stepA l a x).s.h = 0 := q2
            rw [e1] at h3 ⊢
            rw [e2, Int.toNat_natCast, Int.toNat_natCast, List.getElem?_set_ne (by omega)]
            exact hL.new (a.E.length + 1) (by omega) h3
          · have e1 : (stepA l a x).s.f = (a.E.length + 1 : Nat) := by show (nxtn l a.s (cnt l a.s x)).f = _; omega
            rw [e1] at h3
            rw [Int.toNat_natCast, List.getElem?_set_ne (by omega)]
            exact hL.new j (by omega) h4
      · have hcl3 : ¬ a.s.f < (nxtn l a.s (cnt l a.s x)).f := by unfold nxt at hcl2; omega
        obtain ⟨q1, q2, q3, q4⟩ := hF2 hcl3
        rw [if_neg (by simpa using hcl2)]
        simp only [Option.bind_some]
        have := ih1 (L.set (Int.toNat (a.E.length : Int)) (a.s.h + 1)) ⟨by omega, ?_⟩ (by omega)
        · have hcl4 : ¬ a.s.f < (nxt l a.s x).f := hcl3
          simp only [stepA, endsL, moresL, hcl4, if_false, List.append_nil] at this
          rw [show ((i : Int) + 1) = ((i + 1 : Nat) : Int) by omega]
          exact this
        · refine ⟨by simp [hL.len], fun h3 => ?_, fun j h3 h4 => ?_⟩
          · have e1 : (stepA l a x).s.f = (a.E.length : Nat) := by show (nxtn l a.s (cnt l a.s x)).f = _; omega
            have e2 : (stepA l a x).s.h = a.s.h + 1 := q2
            rw [e1] at h3 ⊢
            rw [e2, Int.toNat_natCast]
            simp [hLl]
          · have e1 : (stepA l a x).s.f = (a.E.length : Nat) := by show (nxtn l a.s (cnt l a.s x)).f = _; omega
            rw [e1] at h3
            rw [Int.toNat_natCast, List.getElem?_set_ne (by omega)]
            exact hL.new j (by omega) h4
    · have : i = sheet.length := by omega
      subst this
      rw [if_neg (by simp), List.take_length]
  · have := hV.f1
    refine ⟨by simp, fun h3 => ?_, fun j h3 h4 => ?_⟩
    · show (List.replicate _ _)[0]? = some 0
      rw [List.getElem?_replicate, if_pos (by omega)]
    · rw [List.getElem?_replicate, if_pos (by omega)]

theorem counts_eq {l : Ref01Law} (hV : V l) {sheet : List Int} (hk : Ok l (s0 l) sheet) (hn : sheet.length ≤ 90) : frameLawCounts 2097152 (fl l) sheet = some (ctsA (acc l sheet)) := by
  have hA := ainv hV hk
  have h2 := counts_2 hA (by rw [acc_len]; exact hn) (by have := hA.fE; have := hA.inv.f1; have := hV.f2; omega)
  have h1 := counts_1 hV hk hn
  have hv1 := hV.f1
  have hv2 := hV.f2
  unfold frameLawCounts frameLawBalls frameLawBegin
  have em : mkl 2097152 (fl l).fFrames (0 : Int) = some (List.replicate l.fFrames.toNat 0) := by
    have q : 0 ≤ (fl l).fFrames ∧ (fl l).fFrames ≤ ((2097152 : Nat) : Int) := ⟨Int.le_trans (by decide) hv1, Int.le_trans hv2 (by decide)⟩
    unfold mkl
    rw [if_pos q]
    rfl
  rw [em]
  simp only [Option.bind_some]
  have e : (FramePlay.mk (fl l) (FrameAt.mk 0 0 (fl l).fPins true (fl l).fBalls (Ar2.mk 0 0))) = (s0 l).play l := rfl
  rw [e]
  unfold endsL moresL at h1
  refine (bind1p _ h1).trans ?_
  exact h2
end Go.Proofs.Ythbifolpofillaa
