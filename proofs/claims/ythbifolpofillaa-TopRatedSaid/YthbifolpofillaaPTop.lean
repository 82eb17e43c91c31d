/-
  The law TopRated, typed, is true.
-/
import Derived.Test.YthbifolpofillaaPL
import Derived.Test.YthbifolpofillaaPR
import Derived.Test.YthbifolpofillaaDTopRated
set_option linter.all false
namespace Go.Proofs.Ythbifolpofillaa
open Go.Kp

set_option maxRecDepth 100000 in
theorem rated_ok : kingpintopRated 2097152 = some true := by decide +kernel

def good1 (l : Ref01Law) (x : List Int) : Prop := x.length ≤ 40 ∧ Ok l (s0 l) x
instance (l : Ref01Law) (x : List Int) : Decidable (good1 l x) := by unfold good1; infer_instance

theorem r_check {l : Ref01Law} (hV : V l) (x : List Int) : (if decide (40 < (x.length : Int)) = true then some true else Option.bind (ref01Is 2097152 l x) fun r => some (!r)) = some (decide (¬ good1 l x)) := by
  unfold good1
  by_cases h : x.length ≤ 40
  · rw [if_neg (by rw [decide_eq_true_eq]; omega), is_eq hV x (by omega)]
    simp [h]
  · rw [if_pos (by rw [decide_eq_true_eq]; omega)]
    simp [h]

theorem r_rot (w : List Int) (hw : ∀ x ∈ w, 0 ≤ x ∧ x ≤ 255) (hl : w.length ≤ 140737488351232) :
    ∃ w', (if decide (0 < (w.length : Int)) = true then Option.bind (idx w 0) fun x => Option.bind (slc w 1 (w.length : Int)) fun l => Option.bind (appB l [x]) fun l2 => some l2 else some w) = some w' ∧ (∀ x ∈ w', 0 ≤ x ∧ x ≤ 255) ∧ w'.length ≤ 140737488351232 := by
  by_cases hp : 0 < w.length
  · have hh : w[0]? = some w[0] := by simp [hp]
    have hi0 : idx w 0 = some w[0] := idx_at hh
    have hsl : slc w 1 (w.length : Int) = some (w.drop 1) := by
      have := slc_ok (L := w) (a := 1) (b := w.length) hp (Nat.le_refl _)
      simpa using this
    refine ⟨w.drop 1 ++ [w[0]], ?_, fun x hx => ?_, by simp; omega⟩
    · rw [if_pos (by simpa using hp), hi0, hsl]
      simp -implicitDefEqProofs only [Option.bind_some]
      rw [appB_ok (by simp; omega)]; rfl
    · rcases List.mem_append.1 hx with h | h
      · exact hw x (List.mem_of_mem_drop h)
      · simp at h; subst h; exact hw _ (List.getElem_mem hp)
  · exact ⟨w, by rw [if_neg (by simpa using hp)], hw, hl⟩

section
variable {l : Ref01Law} (hV : V l)
include hV

theorem tot_top {x : List Int} (hk : Ok l (s0 l) x) : 0 ≤ (acc l x).tot ∧ 0 ≤ G l (acc l x).s ∧ (acc l x).tot + G l (acc l x).s ≤ 300 := by
  have h1 := acc_tot_bd hV hk
  have h2 := G_bd hV (inv2_A (ainv hV hk))
  have h3 := ending_in hV x (inv2_A (ainv hV (bs := []) trivial)) hk
  have h4 := acc_tot_app l [] x
  have e0 : (acc l []).s = s0 l := rfl
  have e1 : (acc l []).tot = 0 := rfl
  rw [e0] at h3 h4
  rw [e1] at h4
  have e2 : run l (s0 l) x = (acc l x).s := (acc_s l x).symm
  rw [e2] at h3
  have e3 : G l (s0 l) = 3 * l.fPins * l.fFrames := by
    have := hV.f1
    unfold G s0
    simp only
    rw [if_neg (by omega), Int.sub_zero, Int.mul_sub, Int.mul_assoc]
    omega
  have b0 := hV.p1; have b1 := hV.p2; have b2 := hV.f1; have b3 := hV.f2
  have k2 : 3 * l.fPins * l.fFrames ≤ 30 * 10 := Int.mul_le_mul (by omega) (by omega) (by omega) (by omega)
  simp at h4
  omega

theorem r_span {x : List Int} (hg : good1 l x) : (Option.bind (law01Law 2097152 l) fun r => Option.bind (app 2097152 [] x) fun l2 => Option.bind (frameSpan 2097152 r l2) fun (ra, rb) => some (rb, ra)) = some (0, (⟨(acc l x).tot, (acc l x).tot + G l (acc l x).s⟩ : FrameRange)) := by
  rw [law_eq]
  simp -implicitDefEqProofs only [Option.bind_some]
  rw [app_ok (by have := hg.1; simp; omega)]
  simp -implicitDefEqProofs only [Option.bind_some, List.nil_append]
  rw [span_eq l x (by have := hg.1; omega), flt_ok.2 ⟨hV, hg.1, hg.2⟩]
  rfl

theorem r_read {x : List Int} (hg : good1 l x) (w : List Int) (hw : ∀ x ∈ w, 0 ≤ x ∧ x ≤ 255) :
    ∃ ext, (Option.bind (law01Law 2097152 l) fun r => Option.bind (law01Ended 2097152 l x w) fun l2 => Option.bind (frameRead 2097152 r l2) fun (ra, rb) => some (rb, ra)) = some (0, gameA l (x ++ ext)) ∧
      Ok l (s0 l) (x ++ ext) ∧ (acc l (x ++ ext)).s.f = l.fFrames ∧ (acc l x).tot ≤ (acc l (x ++ ext)).tot ∧ (acc l (x ++ ext)).tot ≤ (acc l x).tot + G l (acc l x).s := by
  obtain ⟨ext, h1, h2, h3, _⟩ := ended_eq hV w hw hg.2
  have hlen := ok_len hV h2
  refine ⟨ext, ?_, h2, h3, ?_⟩
  · rw [law_eq]
    simp -implicitDefEqProofs only [Option.bind_some]
    rw [h1]
    simp -implicitDefEqProofs only [Option.bind_some]
    rw [read_eq l _ (by omega), flt_ok.2 ⟨hV, by omega, h2⟩]
    rfl
  · have hA := ainv hV hg.2
    have hext : Ok l (acc l x).s ext := by rw [acc_s]; exact ((ok_app l _ _ _).1 h2).2
    have := ending_in hV ext (inv2_A hA) hext
    have hrun : run l (acc l x).s ext = (acc l (x ++ ext)).s := by rw [acc_s, acc_s, run_app]
    have hge : G l (acc l (x ++ ext)).s = 0 := by unfold G; rw [if_pos h3]
    rw [hrun, hge] at this
    have ht := acc_tot_app l x ext
    omega

theorem r_cond {x y : List Int} (hx : Ok l (s0 l) x) (hk : Ok l (s0 l) y) (hd : (acc l y).s.f = l.fFrames) :
    (if (!decide True) = true then some true else if (!decide True) = true then some true else if (!(gameA l y).fDone) = true then some true else
      if (!decide (((gameA l y).fCounts.length : Int) = l.fFrames)) = true then some true else if decide ((acc l x).tot < 0) = true then some true else some (decide (300 < (acc l x).tot + G l (acc l x).s))) = some false := by
  have h := tot_top hV hx
  have h2 : (((gameA l y).fCounts.length : Nat) : Int) = l.fFrames := done_len hV hk hd
  have h3 : (gameA l y).fDone = true := by simp [gameA, hd]
  rw [if_neg (by simp), if_neg (by simp), h3, if_neg (by simp), h2, if_neg (by simp), if_neg (by rw [decide_eq_true_eq]; omega), decide_eq_false (by omega)]

theorem r_idx {y : List Int} (hk : Ok l (s0 l) y) (hd : (acc l y).s.f = l.fFrames) : idx (gameA l y).fCounts (w64 (l.fFrames - 1)) = some (acc l y).tot := by
  have := hV.f1; have := hV.f2
  rw [w64_id (by omega) (by omega)]
  exact done_last hV hk hd
end

theorem avg_eq (g : Ar3 Int) (h : okg g) : rateAverage 2097152 (hs g) 0 2 = some (Int.tdiv (g.a0 + g.a1 + g.a2) 3, 0) := avg_hs 2097132 g h
theorem hand_eq (g : Ar3 Int) (h : okg g) : rateHandicap 2097152 (hs g) 0 2 = some (hcp (g.a0 + g.a1 + g.a2), 0) := hand_hs 2097132 g h
theorem house_eq (g : Ar3 Int) : kingpintopHouse 2097152 g = some (hs g) := rfl

theorem top_ok (l : Ref01Law) (ss : List (List Int)) (words : List Int) (hw : ∀ x ∈ words, 0 ≤ x ∧ x ≤ 255) (hwl : words.length ≤ 140737488351232) : kingpintopTopRated 2097152 l ss words = some true := by
  unfold kingpintopTopRated
  rw [isLaw_eq]
  simp -implicitDefEqProofs only [Option.bind_some]
  rw [rated_ok]
  by_cases hV : V l
  · by_cases h3 : ss.length = 3
    · match ss, h3 with
      | [x, y, z], _ =>
        have i0 : idx [x, y, z] 0 = some x := rfl
        have i1 : idx [x, y, z] 1 = some y := rfl
        have i2 : idx [x, y, z] 2 = some z := rfl
        simp -implicitDefEqProofs only [hV, decide_true, Bool.not_true, Bool.false_eq_true, if_false, Option.bind_some, i0, i1, i2]
        rw [show (!decide ((([x, y, z] : List (List Int)).length : Int) = 3)) = false from rfl]
        simp -implicitDefEqProofs only [Bool.false_eq_true, if_false, Option.bind_some]
        rw [r_check hV x, r_check hV y, r_check hV z]
        by_cases hx : good1 l x
        · rw [show decide (¬ good1 l x) = false by simp [hx]]
          simp -implicitDefEqProofs only [Option.bind_some, Bool.false_eq_true, if_false]
          obtain ⟨wx, qx, x2, x3⟩ := r_rot words hw hwl
          rw [qx]
          simp -implicitDefEqProofs only [Option.bind_some]
          obtain ⟨ex, px, ox, dx, tx, ux⟩ := r_read hV hx wx x2
          rw [r_span hV hx, px]
          simp -implicitDefEqProofs only [Option.bind_some]
          rw [r_cond hV hx.2 ox dx]
          simp -implicitDefEqProofs only [Option.bind_some, Bool.false_eq_true, if_false]
          rw [r_idx hV ox dx]
          simp -implicitDefEqProofs only [Option.bind_some]
          by_cases hy : good1 l y
          · rw [show decide (¬ good1 l y) = false by simp [hy]]
            simp -implicitDefEqProofs only [Option.bind_some, Bool.false_eq_true, if_false]
            obtain ⟨wy, qy, y2, y3⟩ := r_rot wx x2 x3
            rw [qy]
            simp -implicitDefEqProofs only [Option.bind_some]
            obtain ⟨ey, py, oy, dy, ty, uy⟩ := r_read hV hy wy y2
            rw [r_span hV hy, py]
            simp -implicitDefEqProofs only [Option.bind_some]
            rw [r_cond hV hy.2 oy dy]
            simp -implicitDefEqProofs only [Option.bind_some, Bool.false_eq_true, if_false]
            rw [r_idx hV oy dy]
            simp -implicitDefEqProofs only [Option.bind_some]
            by_cases hz : good1 l z
            · rw [show decide (¬ good1 l z) = false by simp [hz]]
              simp -implicitDefEqProofs only [Option.bind_some, Bool.false_eq_true, if_false]
              obtain ⟨wz, qz, z2, z3⟩ := r_rot wy y2 y3
              rw [qz]
              simp -implicitDefEqProofs only [Option.bind_some]
              obtain ⟨ez, pz, oz, dz, tz, uz⟩ := r_read hV hz wz z2
              rw [r_span hV hz, pz]
              simp -implicitDefEqProofs only [Option.bind_some]
              rw [r_cond hV hz.2 oz dz]
              simp -implicitDefEqProofs only [Option.bind_some, Bool.false_eq_true, if_false]
              rw [r_idx hV oz dz]
              simp -implicitDefEqProofs only [Option.bind_some]
              have bx := tot_top hV hx.2
              have bY := tot_top hV hy.2
              have bz := tot_top hV hz.2
              have kl : okg ⟨(acc l x).tot, (acc l y).tot, (acc l z).tot⟩ := ⟨⟨by simp only; omega, by simp only; omega⟩, ⟨by simp only; omega, by simp only; omega⟩, ⟨by simp only; omega, by simp only; omega⟩⟩
              have kt : okg ⟨(acc l (x ++ ex)).tot, (acc l (y ++ ey)).tot, (acc l (z ++ ez)).tot⟩ := ⟨⟨by simp only; omega, by simp only; omega⟩, ⟨by simp only; omega, by simp only; omega⟩, ⟨by simp only; omega, by simp only; omega⟩⟩
              have kh : okg ⟨(acc l x).tot + G l (acc l x).s, (acc l y).tot + G l (acc l y).s, (acc l z).tot + G l (acc l z).s⟩ := ⟨⟨by simp only; omega, by simp only; omega⟩, ⟨by simp only; omega, by simp only; omega⟩, ⟨by simp only; omega, by simp only; omega⟩⟩
              simp -implicitDefEqProofs only [house_eq, Option.bind_some]
              rw [avg_eq _ kl, avg_eq _ kt, avg_eq _ kh, hand_eq _ kl, hand_eq _ kt, hand_eq _ kh]
              simp -implicitDefEqProofs only [Option.bind_some]
              have m1 := tdiv_mono (a := (acc l x).tot + (acc l y).tot + (acc l z).tot) (b := (acc l (x ++ ex)).tot + (acc l (y ++ ey)).tot + (acc l (z ++ ez)).tot) 3 (by decide) (by omega)
              have m2 := tdiv_mono (a := (acc l (x ++ ex)).tot + (acc l (y ++ ey)).tot + (acc l (z ++ ez)).tot) (b := (acc l x).tot + G l (acc l x).s + ((acc l y).tot + G l (acc l y).s) + ((acc l z).tot + G l (acc l z).s)) 3 (by decide) (by omega)
              have m3 := hcp_anti (a := (acc l x).tot + (acc l y).tot + (acc l z).tot) (b := (acc l (x ++ ex)).tot + (acc l (y ++ ey)).tot + (acc l (z ++ ez)).tot) (by omega)
              have m4 := hcp_anti (a := (acc l (x ++ ex)).tot + (acc l (y ++ ey)).tot + (acc l (z ++ ez)).tot) (b := (acc l x).tot + G l (acc l x).s + ((acc l y).tot + G l (acc l y).s) + ((acc l z).tot + G l (acc l z).s)) (by omega)
              simp -implicitDefEqProofs only [m1, m2, m3, m4, decide_true, if_true, Option.bind_some]
            · rw [show decide (¬ good1 l z) = true by simp [hz]]
              simp -implicitDefEqProofs only [Option.bind_some, if_true]
          · rw [show decide (¬ good1 l y) = true by simp [hy]]
            simp -implicitDefEqProofs only [Option.bind_some, if_true]
        · rw [show decide (¬ good1 l x) = true by simp [hx]]
          simp -implicitDefEqProofs only [Option.bind_some, if_true]
    · simp -implicitDefEqProofs only [hV, decide_true, Bool.not_true, Bool.false_eq_true, if_false, Option.bind_some]
      rw [if_pos (by simp; omega)]
  · simp -implicitDefEqProofs only [hV, decide_false, Bool.not_false, if_true, Option.bind_some]
end Go.Proofs.Ythbifolpofillaa
