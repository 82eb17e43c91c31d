/-
  The frames of a sheet; the program's and the document's 'Read'.
-/
import Derived.Test.YthbifolpofillaaPG
set_option linter.all false
namespace Go.Proofs.Ythbifolpofillaa
open Go.Kp

/-- a ball more in a game's frames: s is the state ahead of it -/
def addG (s : S) (G : List (List Int)) (b : Int) : List (List Int) :=
  let G1 := if s.f = (G.length : Int) then G ++ [[]] else G
  G1.set s.f.toNat ((G1[s.f.toNat]?.getD []) ++ [b])
def grp (l : Ref01Law) : S → List (List Int) → List Int → List (List Int)
  | _, G, [] => G
  | s, G, b :: bs => grp l (nxt l s b) (addG s G b) bs
theorem grp_snoc (l : Ref01Law) : ∀ (bs : List Int) (s : S) (G : List (List Int)) (b : Int), grp l s G (bs ++ [b]) = addG (run l s bs) (grp l s G bs) b
  | [], _, _, _ => rfl
  | x :: xs, s, G, b => grp_snoc l xs (nxt l s x) (addG s G x) b
def grA (l : Ref01Law) (bs : List Int) : List (List Int) := grp l (s0 l) [] bs

/-- what is so of the frames -/
structure GInv (s : S) (G : List (List Int)) (bs : List Int) : Prop where
  len : (G.length : Int) = s.f + if s.h = 0 then 0 else 1
  flat : G.flatten = bs

theorem row_le {G : List (List Int)} {r : List Int} (h : r ∈ G) : r.length ≤ G.flatten.length := by
  induction G with
  | nil => simp at h
  | cons x G ih =>
    rcases List.mem_cons.1 h with rfl | h
    · simp
    · have := ih h; simp only [List.flatten_cons, List.length_append]; omega

theorem addG_new {s : S} {G : List (List Int)} {b : Int} (h : (G.length : Int) = s.f) : addG s G b = G ++ [[b]] := by
  unfold addG
  have : s.f.toNat = G.length := by omega
  rw [if_pos h.symm, this]
  simp
theorem addG_old {s : S} {G I : List (List Int)} {r : List Int} {b : Int} (hG : G = I ++ [r]) (h : (I.length : Int) = s.f) : addG s G b = I ++ [r ++ [b]] := by
  subst hG
  unfold addG
  have : s.f.toNat = I.length := by omega
  rw [if_neg (by simp; omega), this]
  simp

theorem ginv_step {l : Ref01Law} (hV : V l) {s : S} (hi : Inv l s) {G : List (List Int)} {bs : List Int} (hg : GInv s G bs) {b : Int} (hm : may l s b) : GInv (nxt l s b) (addG s G b) (bs ++ [b]) := by
  have hc := cnt_le hV hi hm.2.2
  obtain ⟨hF1, hF2, _⟩ := nxtn_f hV hi hm.1 hc.1 hc.2
  have hh0 := hi.h0
  have hlen : (addG s G b).length = s.f + 1 ∧ (addG s G b).flatten = G.flatten ++ [b] := by
    by_cases h : s.h = 0
    · have hl := hg.len
      rw [if_pos h] at hl
      rw [addG_new (by omega)]
      simp; omega
    · have hl := hg.len
      rw [if_neg h] at hl
      have hne : G ≠ [] := by intro e; rw [e] at hl; have := hi.f0; simp at hl; omega
      have hd := (List.dropLast_concat_getLast hne).symm
      have hpos : 1 ≤ G.length := by have := hi.f0; omega
      rw [addG_old hd (by rw [List.length_dropLast]; omega)]
      refine ⟨by simp only [List.length_append, List.length_dropLast, List.length_singleton]; omega, ?_⟩
      conv => rhs; rw [hd]
      simp
  refine ⟨?_, by rw [hlen.2, hg.flat]⟩
  rw [hlen.1]
  unfold nxt
  by_cases hcl : s.f < (nxtn l s (cnt l s b)).f
  · obtain ⟨q1, q2, _⟩ := hF1 hcl
    rw [q1, q2]; simp
  · obtain ⟨q1, q2, _⟩ := hF2 hcl
    rw [q1, q2, if_neg (by omega)]

theorem ginv_fold {l : Ref01Law} (hV : V l) : ∀ (ys : List Int) {s : S} {G : List (List Int)} {bs : List Int}, Inv l s → GInv s G bs → Ok l s ys → GInv (run l s ys) (grp l s G ys) (bs ++ ys)
  | [], s, G, bs, _, hg, _ => by simpa [run, grp] using hg
  | y :: ys, s, G, bs, hi, hg, hk => by
    have h1 := ginv_fold hV ys (inv_nxt hV hi hk.1.1 hk.1.2.2) (ginv_step hV hi hg hk.1) hk.2
    simpa [run, grp] using h1
theorem ginv {l : Ref01Law} (hV : V l) {bs : List Int} (hk : Ok l (s0 l) bs) : GInv (acc l bs).s (grA l bs) bs := by
  have h := ginv_fold hV bs (inv0 hV) (G := []) (bs := []) ⟨by simp [s0], rfl⟩ hk
  rw [acc_s]
  simpa [grA] using h

theorem grA_succ {l : Ref01Law} {sheet : List Int} {i : Nat} {x : Int} (hx : sheet[i]? = some x) : grA l (sheet.take (i + 1)) = addG (acc l (sheet.take i)).s (grA l (sheet.take i)) x := by
  have hlt := (List.getElem?_eq_some_iff.1 hx).1
  rw [List.take_succ_eq_append_getElem hlt, grA, grp_snoc, acc_s, (List.getElem?_eq_some_iff.1 hx).2]
  rfl

theorem app1_ok {α : Type} {L : List α} {x : α} (h : L.length ≤ 900) : app 2097152 L [x] = some (L ++ [x]) := app_ok (by simp; omega)

section
variable {l : Ref01Law} (hV : V l) {sheet : List Int} (hk : Ok l (s0 l) sheet) (hn : sheet.length ≤ 90)
include hV hk hn

/-- one step of both loops -/
theorem add_row {i : Nat} {x : Int} (hx : sheet[i]? = some x) :
    ∃ G1 r, (if (acc l (sheet.take i)).s.f = ((grA l (sheet.take i)).length : Int) then grA l (sheet.take i) ++ [[]] else grA l (sheet.take i)) = G1 ∧ idx G1 (acc l (sheet.take i)).s.f = some r ∧ r.length ≤ 90 ∧
      G1.set (Int.toNat (acc l (sheet.take i)).s.f) (r ++ [x]) = grA l (sheet.take (i + 1)) := by
  have hi := (ainv hV (ok_pre hk i)).inv
  have hg := ginv hV (ok_pre hk i)
  have hlt := (List.getElem?_eq_some_iff.1 hx).1
  have hfl : (grA l (sheet.take i)).flatten.length ≤ 90 := by rw [hg.flat]; simp; omega
  rw [grA_succ hx]
  unfold addG
  refine ⟨_, ((if (acc l (sheet.take i)).s.f = ((grA l (sheet.take i)).length : Int) then grA l (sheet.take i) ++ [[]] else grA l (sheet.take i))[(acc l (sheet.take i)).s.f.toNat]?.getD []), rfl, ?_, ?_, rfl⟩
  · have hf0 := hi.f0
    have hl := hg.len
    have hb : (acc l (sheet.take i)).s.f.toNat < (if (acc l (sheet.take i)).s.f = ((grA l (sheet.take i)).length : Int) then grA l (sheet.take i) ++ [[]] else grA l (sheet.take i)).length := by
      split
      · simp; omega
      · rename_i hne
        split at hl <;> omega
    unfold idx
    rw [if_pos hf0]
    simp [hb]
  · have key : ∀ (G : List (List Int)) (n : Nat), G.flatten.length ≤ 90 → (G[n]?.getD []).length ≤ 90 := by
      intro G n hG
      cases h : G[n]? with
      | none => simp
      | some r => have := row_le (List.mem_of_getElem? h); simp; omega
    refine key _ _ ?_
    split
    · simp; simpa using hfl
    · exact hfl

theorem frames_len {i : Nat} : (grA l (sheet.take i)).length ≤ 11 := by
  have hA := ainv hV (ok_pre hk i)
  have hg := (ginv hV (ok_pre hk i)).len
  have := hA.inv.f1
  have := hV.f2
  split at hg <;> omega

theorem read_frames : loopN (fun rec3 x => frameRead_b1 2097152 sheet rec3 x.1 x.2.1 x.2.2.1 x.2.2.2) 2097152 ((sheet.length : Int), 0, (s0 l).play l, []) = some (grA l sheet) := by
  have h := loopN_rel (ι := Nat) (b := fun rec3 x => frameRead_b1 2097152 sheet rec3 x.1 x.2.1 x.2.2.1 x.2.2.2)
    (fun i => ((sheet.length : Int), (i : Int), (acc l (sheet.take i)).s.play l, grA l (sheet.take i)))
    (fun i => some (grA l sheet)) (fun i => sheet.length - i) (fun i => i ≤ sheet.length) ?_ 2097152 0 (Nat.zero_le _) (by omega)
  · exact h
  · intro i rec hi ih
    simp only at hi ih ⊢
    unfold frameRead_b1
    by_cases hlt : i < sheet.length
    · obtain ⟨x, hx, hm, ha⟩ := at_i hk hlt
      have hI := (ainv hV (ok_pre hk i)).inv
      obtain ⟨G1, r, r1, r2, r3, r4⟩ := add_row hV hk hn hx
      have hfl := frames_len hV hk hn (i := i)
      rw [if_pos (by simpa using hlt), idx_at hx]
      simp -implicitDefEqProofs only [Option.bind_some, may_eq hI, hm, decide_true, Bool.not_true, Bool.false_eq_true, if_false]
      rw [next_eq hV hI hm.1 hm.2.2]
      simp -implicitDefEqProofs only [Option.bind_some]
      have ep : ((acc l (sheet.take i)).s.play l).fAt.fFrame = (acc l (sheet.take i)).s.f := rfl
      simp only [ep]
      have e1 : (if decide ((acc l (sheet.take i)).s.f = ((grA l (sheet.take i)).length : Int)) = true then Option.bind (app 2097152 (grA l (sheet.take i)) [[]]) fun l168 => some l168 else some (grA l (sheet.take i))) = some G1 := by
        rw [← r1]
        by_cases h : (acc l (sheet.take i)).s.f = ((grA l (sheet.take i)).length : Int)
        · rw [if_pos (by simpa using h), if_pos h, app1_ok (by omega)]; rfl
        · rw [if_neg (by simpa using h), if_neg h]
      rw [e1]
      simp -implicitDefEqProofs only [Option.bind_some]
      rw [r2]
      simp -implicitDefEqProofs only [Option.bind_some]
      rw [app1_ok (by omega)]
      simp -implicitDefEqProofs only [Option.bind_some]
      rw [r4, w64_id (by omega) (by omega)]
      have := ih (i + 1) (by omega) (by omega)
      rw [ha] at this
      rw [show ((i : Int) + 1) = ((i + 1 : Nat) : Int) by omega]
      exact this
    · have : i = sheet.length := by omega
      subst this
      rw [if_neg (by simp), List.take_length]

end

/-- the game of a sheet -/
def gameA (l : Ref01Law) (sheet : List Int) : FrameGame := ⟨grA l sheet, ctsA (acc l sheet), if (acc l sheet).s.f = l.fFrames then 0 else (acc l sheet).s.p, decide ((acc l sheet).s.f = l.fFrames)⟩

theorem read_eq (l : Ref01Law) (sheet : List Int) (hn : sheet.length ≤ 45) : frameRead 2097152 (fl l) sheet = some (if flt l sheet = 0 then gameA l sheet else ⟨[], [], 0, false⟩, flt l sheet) := by
  unfold frameRead
  rw [check_eq l sheet hn]
  simp -implicitDefEqProofs only [Option.bind_some]
  by_cases h0 : flt l sheet = 0
  · obtain ⟨hV, _, hk⟩ := flt_ok.1 h0
    rw [if_neg (by simp [h0]), if_pos h0, h0, counts_eq hV hk (by omega), behind_eq hV hk (by omega)]
    unfold frameLawBalls frameLawBegin
    simp -implicitDefEqProofs only [Option.bind_some]
    have e : (FramePlay.mk (fl l) (FrameAt.mk 0 0 (fl l).fPins true (fl l).fBalls (Ar2.mk 0 0))) = (s0 l).play l := rfl
    rw [e, read_frames hV hk (by omega)]
    simp -implicitDefEqProofs only [Option.bind_some, done_eq]
    unfold gameA
    by_cases hd : (acc l sheet).s.f = l.fFrames
    · simp [hd]
    · simp [hd]; rfl
  · rw [if_pos (by simp [h0]), if_neg h0]

theorem cts_len (cs : List Int) : ∀ (E : List (Nat × Nat)) (fr : Nat) (up : Int), (cts cs fr up E).length ≤ E.length
  | [], _, _ => by simp [cts]
  | p :: E, fr, up => by
    unfold cts
    split
    · simp
    · have := cts_len cs E p.1 (up + sm ((cs.take (p.1 + p.2)).drop fr)); simp; omega
end Go.Proofs.Ythbifolpofillaa
