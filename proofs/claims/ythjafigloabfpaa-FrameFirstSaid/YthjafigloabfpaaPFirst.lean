/-
  The law FrameFirst, typed, is true.
-/
import Derived.Test.YthjafigloabfpaaPBads
import Derived.Test.YthjafigloabfpaaPH
import Derived.Test.YthjafigloabfpaaDFrameFirst
set_option linter.all false
namespace Go.Proofs.Ythjafigloabfpaa
open Go.Kp

/-- a sheet that does not fit: the ball at which it stops -/
theorem good_lt {l : Ref01Law} : ∀ {s : S} {bs : List Int}, ¬ Ok l s bs → ∃ x, bs[good l s bs]? = some x ∧ ¬ may l (run l s (bs.take (good l s bs))) x
  | s, [], h => absurd trivial h
  | s, b :: bs, h => by
    by_cases hm : may l s b
    · have h2 : ¬ Ok l (nxt l s b) bs := fun k => h ⟨hm, k⟩
      obtain ⟨x, h3, h4⟩ := good_lt h2
      refine ⟨x, ?_, ?_⟩
      · unfold good; rw [if_pos hm]; simpa using h3
      · unfold good; rw [if_pos hm]; exact h4
    · refine ⟨b, ?_, ?_⟩
      · unfold good; rw [if_neg hm]; rfl
      · unfold good; rw [if_neg hm]; exact hm

theorem addG_len {s : S} {G : List (List Int)} {b : Int} : G.length ≤ (addG s G b).length := by
  unfold addG
  split <;> simp

theorem first_ok (l : Ref01Law) (sheet : List Int) : law01FrameFirst 1000 l sheet = some true := by
  unfold law01FrameFirst
  simp only [wakes_ok, isLaw_eq, Option.bind_some]
  by_cases hV : V l
  · by_cases hn : sheet.length ≤ 40
    · have h40 : ¬ (40 : Int) < sheet.length := by omega
      simp only [hV, decide_true, Bool.not_true, Bool.false_eq_true, if_false, Option.bind_some, h40, decide_false, law_eq, list_eq (show sheet.length ≤ 1000 by omega), bad_eq l sheet (by omega), read_eq l sheet (by omega)]
      by_cases hk : Ok l (s0 l) sheet
      · have h0 : flt l sheet = 0 := flt_ok.2 ⟨hV, hn, hk⟩
        simp [h0]
      · have h1 : flt l sheet = 10 := flt_law.2 ⟨hV, hn, hk⟩
        have hgl := good_le l (s0 l) sheet
        have hgn : good l (s0 l) sheet ≠ sheet.length := fun e => hk ((ok_good _ _ _).2 e)
        obtain ⟨x, hx, hmx⟩ := good_lt hk
        have hkp := ok_take l (s0 l) sheet
        generalize good l (s0 l) sheet = g at *
        simp only [h1, if_true]
        rw [if_neg (by decide), if_neg (by simp)]
        simp only [Option.bind_some]
        rw [if_neg (by simp; omega)]
        have hs1 : slc sheet 0 (g : Int) = some (sheet.take g) := by
          have := slc_ok (L := sheet) (a := 0) (b := g) (Nat.zero_le _) (by omega)
          simpa using this
        have hs2 : slc sheet 0 ((g : Int) + 1) = some (sheet.take (g + 1)) := by
          have := slc_ok (L := sheet) (a := 0) (b := g + 1) (Nat.zero_le _) (by omega)
          simpa using this
        have et : sheet.take (g + 1) = sheet.take g ++ [x] := by
          rw [List.take_succ_eq_append_getElem (show g < sheet.length by omega)]
          rw [(List.getElem?_eq_some_iff.1 hx).2]
        have f1 : flt l (sheet.take g) = 0 := flt_ok.2 ⟨hV, by simp; omega, hkp⟩
        have f2 : flt l (sheet.take g ++ [x]) = 10 := flt_law.2 ⟨hV, by simp; omega, fun k => hmx ((ok_app l _ _ _).1 k).2.1⟩
        have hA := ainv hV hkp
        have hrun : run l (s0 l) (sheet.take g) = (acc l (sheet.take g)).s := (acc_s l _).symm
        rw [w64_id (by omega) (by omega), hs1, hs2, et]
        simp only [Option.bind_some]
        rw [list_eq (by simp; omega), list_eq (by simp; omega)]
        simp only [Option.bind_some]
        rw [read_eq l (sheet.take g) (by simp; omega), read_eq l (sheet.take g ++ [x]) (by simp; omega), app_ok (by simp; omega)]
        simp only [Option.bind_some]
        rw [read_eq l (sheet.take g ++ [0]) (by simp; omega)]
        simp only [Option.bind_some, f1, f2, if_true]
        rw [if_neg (by decide)]
        simp only [Option.bind_some]
        rw [if_neg (by decide), idx_at hx]
        unfold gameA
        simp only
        by_cases hd : (acc l (sheet.take g)).s.f = l.fFrames
        · have f3 : flt l (sheet.take g ++ [0]) = 10 := flt_law.2 ⟨hV, by simp; omega, fun k => by
            have := ((ok_app l _ _ _).1 k).2.1.1
            rw [hrun] at this; omega⟩
          simp [hd, f3]
        · have hlt : (acc l (sheet.take g)).s.f < l.fFrames := by have := hA.inv.f1; omega
          have hp0 := hA.inv.p0
          have f3 : flt l (sheet.take g ++ [0]) = 0 := flt_ok.2 ⟨hV, by simp; omega, (ok_app l _ _ _).2 ⟨hkp, by
            rw [hrun]; exact ⟨⟨hlt, by omega, by omega⟩, trivial⟩⟩⟩
          have hgl2 : (grA l (sheet.take g)).length ≤ (grA l (sheet.take g ++ [0])).length := by
            unfold grA
            rw [grp_snoc]
            exact addG_len
          rw [hrun] at hmx
          have hor : x < -1 ∨ (acc l (sheet.take g)).s.p < x := by
            by_cases h5 : x < -1
            · exact .inl h5
            · by_cases h6 : (acc l (sheet.take g)).s.p < x
              · exact .inr h6
              · exact absurd ⟨hlt, by omega, by omega⟩ hmx
          simp [hd, f3, hgl2]
          rcases hor with h | h
          · intro _; omega
          · intro _; omega
    · have h40 : (40 : Int) < sheet.length := by omega
      simp [hV, h40]
  · simp [hV]
end Go.Proofs.Ythjafigloabfpaa
