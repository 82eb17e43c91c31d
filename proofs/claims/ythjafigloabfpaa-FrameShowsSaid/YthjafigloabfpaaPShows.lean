/-
  The law FrameShows, typed, is true.
-/
import Derived.Test.YthjafigloabfpaaPL
import Derived.Test.YthjafigloabfpaaPW
import Derived.Test.YthjafigloabfpaaDFrameShows
set_option linter.all false
namespace Go.Proofs.Ythjafigloabfpaa
open Go.Kp

theorem find_loop (x : Int) (f : List Int) (hf : f.length ≤ 900) : loopN (fun rec3 y => law01FrameShows_b1 1000 x f rec3 y.1 y.2) 1000 (9, 0) = some (if x ∈ f then 0 else 9) := by
  have h := loopN_rel (ι := Nat) (b := fun rec3 y => law01FrameShows_b1 1000 x f rec3 y.1 y.2) (fun i => (if x ∈ f.take i then (0 : Int) else 9, (i : Int))) (fun _ => some (if x ∈ f then (0 : Int) else 9)) (fun i => f.length - i) (fun i => i ≤ f.length) ?_ 1000 0 (Nat.zero_le _) (by omega)
  · simpa using h
  · intro i rec hi ih
    try simp only at hi ih ⊢
    unfold law01FrameShows_b1
    by_cases hlt : i < f.length
    · have hx : f[i]? = some f[i] := by simp [hlt]
      rw [if_pos (by simpa using hlt), idx_at hx]
      simp only [Option.bind_some]
      have := ih (i + 1) (by omega) (by omega)
      rw [List.take_succ_eq_append_getElem hlt] at this
      rw [w64_id (by omega) (by omega), show ((i : Int) + 1) = ((i + 1 : Nat) : Int) by omega]
      by_cases he : f[i] = x
      · rw [if_pos (by simpa using he)]
        simp only [Option.bind_some]
        rw [if_pos (by simp [he])] at this
        exact this
      · rw [if_neg (by simpa using he)]
        simp only [Option.bind_some]
        have e : (x ∈ f.take i ++ [f[i]]) ↔ x ∈ f.take i := by
          rw [List.mem_append, List.mem_singleton]
          exact ⟨fun h => h.resolve_right fun q => he q.symm, .inl⟩
        simp only [e] at this
        exact this
    · have : i = f.length := by omega
      subst this
      rw [if_neg (by simp), List.take_length]

theorem shows_ok (l : Ref01Law) (sheet : List Int) (final : Int) (hfin : -9223372036854775808 ≤ final ∧ final ≤ 9223372036854775807) : law01FrameShows 1000 l sheet final = some true := by
  unfold law01FrameShows
  rw [wakes_ok]
  by_cases hn : sheet.length ≤ 45
  · rw [if_neg (by simp; omega)]
    obtain ⟨b, e, h1, h2, h3⟩ := shows_eq l sheet hn final
    simp only [law_eq, Option.bind_some, list_eq (show sheet.length ≤ 1000 by omega), fault_eq l sheet (by omega), h1]
    by_cases h0 : flt l sheet = 0
    · obtain ⟨hV, _, hk⟩ := flt_ok.1 h0
      obtain ⟨h4, h5⟩ := h3 h0
      have hA := ainv hV hk
      have hi := inv2_A hA
      have hg := G_bd hV hi
      obtain ⟨o, f1, f2⟩ := finals_ex hV hk (by omega)
      have hfl := fins_len (acc l sheet).tot o 0
      have hol := f2.1
      rw [if_pos (by simpa using h0), f1]
      simp only [Option.bind_some]
      rw [find_loop final _ (by omega)]
      simp only [Option.bind_some]
      have hmem : final ∈ fins (acc l sheet).tot 0 o ↔ Rch l (acc l sheet).s (final - (acc l sheet).tot) := by
        rw [fins_mem]
        constructor
        · rintro ⟨i, q1, q2⟩
          rw [q2, show (acc l sheet).tot + ((0 : Nat) : Int) + (i : Int) - (acc l sheet).tot = (i : Int) by omega]
          exact (f2.2 i).1 q1
        · intro h
          have := (rch_bd hV h hi).1
          refine ⟨(final - (acc l sheet).tot).toNat, (f2.2 _).2 ?_, by omega⟩
          rw [Int.toNat_of_nonneg this]; exact h
      by_cases hr : Rch l (acc l sheet).s (final - (acc l sheet).tot)
      · obtain ⟨q1, q2⟩ := h4 hr
        subst q1
        rw [if_pos (hmem.2 hr), if_neg (by decide)]
        have hko : Ok l (s0 l) (sheet ++ b) := (ok_app l _ _ _).2 ⟨hk, by rw [← acc_s]; exact q2.ok⟩
        have hlo := ok_len hV hko
        rw [List.length_append] at hlo
        have hd : (acc l (sheet ++ b)).s.f = l.fFrames := by rw [acc_s, run_app, ← acc_s]; exact q2.dn
        have ht : (acc l (sheet ++ b)).tot = final := by rw [acc_tot_app, q2.w]; omega
        have hloop := loopN_rel (ι := Nat) (b := fun rec5 x => law01FrameShows_b3 1000 l sheet final b 0 rec5 x) (fun j => (j : Int)) (fun _ => some true) (fun j => b.length - j) (fun j => j ≤ b.length) ?_ 1000 0 (Nat.zero_le _) (by omega)
        · exact hloop
        · intro j rec hj ih
          try simp only at hj ih ⊢
          unfold law01FrameShows_b3
          by_cases hlt : j < b.length
          · have hx : b[j]? = some b[j] := by simp [hlt]
            have hb := q2.nn _ (List.getElem_mem hlt)
            rw [if_pos (by simpa using hlt), idx_at hx]
            simp only [Option.bind_some]
            rw [if_neg (by simp; omega), w64_id (by omega) (by omega)]
            have := ih (j + 1) (by omega) (by omega)
            rw [show ((j : Int) + 1) = ((j + 1 : Nat) : Int) by omega]
            exact this
          · rw [if_neg (by simpa using hlt)]
            unfold law01FrameShows_k2
            have hb40 : (b.length : Int) ≤ 40 := by omega
            rw [list_eq (by omega)]
            simp only [Option.bind_some]
            rw [app_ok (by omega)]
            simp only [Option.bind_some]
            rw [rfinal_eq hV hko (by rw [List.length_append]; omega) hd, wakes_ok]
            simp [ht, hb40]
      · obtain ⟨q1, q2⟩ := h5 hr
        subst q1 q2
        rw [if_neg (fun h => hr (hmem.1 h))]
        simp
    · obtain ⟨q1, q2⟩ := h2 h0
      subst q1 q2
      rw [if_neg (by simpa using h0)]
      simp [h0]
  · rw [if_pos (by simp; omega)]
    rfl
end Go.Proofs.Ythjafigloabfpaa
