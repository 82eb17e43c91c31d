/-
  The law FrameFouls, typed, is true.
-/
import Derived.Test.YthjafigloabfpaaPI
import Derived.Test.YthjafigloabfpaaPW
import Derived.Test.YthjafigloabfpaaDFrameFouls
set_option linter.all false
namespace Go.Proofs.Ythjafigloabfpaa
open Go.Kp

theorem wrap_u64 {n : Int} (h1 : 0 ≤ n) (h2 : n < 18446744073709551616) : Go.IntKind.wrap .u64 n = n := by
  unfold Go.IntKind.wrap
  simp only [Go.IntKind.bits, Go.IntKind.signed, Bool.false_and, Bool.false_eq_true, if_false]
  omega

/-- a ball of none, a foul -/
def fb (bits : Int) (i : Nat) : Int := w64 (-(w64 (Int.tmod (shrI .u32 bits (Go.IntKind.wrap .u64 (Int.tmod (i : Int) 32))) 2)))
theorem fb_val {bits : Int} (hb : 0 ≤ bits) (i : Nat) : fb bits i = 0 ∨ fb bits i = -1 := by
  unfold fb shrI
  have hz : 0 ≤ bits.fdiv (2 ^ (min (Go.IntKind.wrap .u64 (Int.tmod (i : Int) 32)).toNat (Go.IntKind.bits .u32))) := Int.fdiv_nonneg hb (by exact Int.le_of_lt (Int.pow_pos (by decide)))
  generalize bits.fdiv (2 ^ (min (Go.IntKind.wrap .u64 (Int.tmod (i : Int) 32)).toNat (Go.IntKind.bits .u32))) = z at hz ⊢
  have h1 : 0 ≤ Int.tmod z 2 := Int.tmod_nonneg _ hz
  have h2 : Int.tmod z 2 < 2 := Int.tmod_lt_of_pos _ (by decide)
  rw [w64_id (n := Int.tmod z 2) (by omega) (by omega), w64_id (by omega) (by omega)]
  omega
def rl (bits : Int) : Nat → List Int → List Int
  | _, [] => []
  | i, b :: bs => (if b ≤ 0 then fb bits i else b) :: rl bits (i + 1) bs
theorem rl_len (bits : Int) : ∀ (bs : List Int) (i : Nat), (rl bits i bs).length = bs.length
  | [], _ => rfl
  | b :: bs, i => by simp [rl, rl_len bits bs]
theorem rl_app (bits : Int) : ∀ (xs ys : List Int) (i : Nat), rl bits i (xs ++ ys) = rl bits i xs ++ rl bits (i + xs.length) ys
  | [], ys, i => by simp [rl]
  | x :: xs, ys, i => by simp [rl, rl_app bits xs ys, Nat.add_assoc, Nat.add_comm 1]

theorem step_max {l : Ref01Law} {a : A} {b b' : Int} (h : max 0 b = max 0 b') : stepA l a b = stepA l a b' := by
  have hc : ∀ s, cnt l s b = cnt l s b' := fun s => by unfold cnt; rw [h]
  unfold stepA wor nxt
  simp only [hc]

theorem rl_acc {l : Ref01Law} (hV : V l) {bits : Int} (hb : 0 ≤ bits) : ∀ (bs : List Int) (i : Nat) {a : A}, AInv l a → Ok l a.s bs → Ok l a.s (rl bits i bs) ∧ (rl bits i bs).foldl (stepA l) a = bs.foldl (stepA l) a
  | [], _, _, _, _ => ⟨trivial, rfl⟩
  | b :: bs, i, a, hA, hk => by
    have hm := hk.1
    have hp0 := hA.inv.p0
    have hmax : max 0 (if b ≤ 0 then fb bits i else b) = max 0 b := by
      split
      · rcases fb_val hb i with h | h <;> rw [h] <;> omega
      · rfl
    have hmay : may l a.s (if b ≤ 0 then fb bits i else b) := by
      split
      · rcases fb_val hb i with h | h <;> rw [h] <;> exact ⟨hm.1, by omega, by omega⟩
      · exact hm
    have hs := step_max (l := l) (a := a) hmax
    obtain ⟨h1, h2⟩ := rl_acc hV hb bs (i + 1) (ainv_step hV hA hm) hk.2
    have en : nxt l a.s (if b ≤ 0 then fb bits i else b) = nxt l a.s b := congrArg A.s hs
    refine ⟨⟨hmay, ?_⟩, ?_⟩
    · rw [en]; exact h1
    · simp only [rl, List.foldl_cons]
      rw [hs]; exact h2

theorem fouls_ok (l : Ref01Law) (sheet : List Int) (bits : Int) (hb : 0 ≤ bits ∧ bits ≤ 4294967295) : law01FrameFouls 1000 l sheet bits = some true := by
  unfold law01FrameFouls
  simp only [ready_eq, wakes_ok, Option.bind_some]
  by_cases hr : V l ∧ sheet.length ≤ 40 ∧ Ok l (s0 l) sheet
  · obtain ⟨hV, hn, hk⟩ := hr
    rw [if_neg (by simp [hV, hn, hk]), list_eq (by omega)]
    simp only [Option.bind_some]
    have hloop : loopN (fun rec3 x => law01FrameFouls_b1 1000 bits rec3 x.1 x.2) 1000 (0, sheet) = some (rl bits 0 sheet) := by
      have h := loopN_rel (ι := Nat) (b := fun rec3 x => law01FrameFouls_b1 1000 bits rec3 x.1 x.2) (fun i => ((i : Int), rl bits 0 (sheet.take i) ++ sheet.drop i)) (fun _ => some (rl bits 0 sheet)) (fun i => sheet.length - i) (fun i => i ≤ sheet.length) ?_ 1000 0 (Nat.zero_le _) (by omega)
      · exact h
      · intro i rec hi ih
        try simp only at hi ih ⊢
        have hll : (rl bits 0 (sheet.take i) ++ sheet.drop i).length = sheet.length := by rw [List.length_append, rl_len]; simp; omega
        unfold law01FrameFouls_b1
        by_cases hlt : i < sheet.length
        · have hd := List.drop_eq_getElem_cons hlt
          have hrl : (rl bits 0 (sheet.take i)).length = i := by rw [rl_len]; simp; omega
          have hx : (rl bits 0 (sheet.take i) ++ sheet.drop i)[i]? = some sheet[i] := by
            rw [List.getElem?_append_right (by omega), hrl, hd]; simp
          have hnext : ∀ v, v = (if sheet[i] ≤ 0 then fb bits i else sheet[i]) → (rl bits 0 (sheet.take i) ++ sheet.drop i).set i v = rl bits 0 (sheet.take (i + 1)) ++ sheet.drop (i + 1) := by
            intro v hv
            rw [List.take_succ_eq_append_getElem hlt, rl_app, hd, List.set_append_right _ _ (by omega), hrl]
            have : 0 + (sheet.take i).length = i := by simp; omega
            rw [this, hv]
            simp only [rl, Nat.sub_self, List.set_cons_zero, List.append_assoc, List.cons_append, List.nil_append]
          rw [if_pos (by rw [hll]; simpa using hlt), idx_at hx]
          simp only [Option.bind_some]
          have := ih (i + 1) (by omega) (by omega)
          rw [w64_id (n := (i : Int) + 1) (by omega) (by omega), show ((i : Int) + 1) = ((i + 1 : Nat) : Int) by omega]
          by_cases hs : sheet[i] ≤ 0
          · have h1 : 0 ≤ Int.tmod (i : Int) 32 := Int.tmod_nonneg _ (by omega)
            have h2 : Int.tmod (i : Int) 32 < 32 := Int.tmod_lt_of_pos _ (by decide)
            have hng : nng (Go.IntKind.wrap .u64 (Int.tmod (i : Int) 32)) = some () := by rw [wrap_u64 h1 (by omega)]; unfold nng; rw [if_pos h1]
            rw [if_pos (decide_eq_true hs), hng]
            simp only [Option.bind_some]
            rw [Int.toNat_natCast, hnext _ (by rw [if_pos hs]; rfl)]
            exact this
          · rw [if_neg (by simpa using hs)]
            simp only [Option.bind_some]
            have e := hnext sheet[i] (by rw [if_neg hs])
            have e2 : (rl bits 0 (sheet.take i) ++ sheet.drop i).set i sheet[i] = rl bits 0 (sheet.take i) ++ sheet.drop i := by
              rw [List.set_append_right _ _ (by omega), hrl, hd]; simp only [Nat.sub_self, List.set_cons_zero]
            rw [← e2, e]
            exact this
        · have : i = sheet.length := by omega
          subst this
          rw [if_neg (by rw [hll]; simp), List.take_length, List.drop_length, List.append_nil]
    rw [hloop]
    simp only [Option.bind_some, law_eq]
    obtain ⟨q1, q2⟩ := rl_acc hV hb.1 sheet 0 (ainv0 hV) hk
    have q2' : acc l (rl bits 0 sheet) = acc l sheet := q2
    have hxl := rl_len bits sheet 0
    generalize rl bits 0 sheet = x at *
    have h0 : flt l sheet = 0 := flt_ok.2 ⟨hV, hn, hk⟩
    have h0' : flt l x = 0 := flt_ok.2 ⟨hV, by omega, q1⟩
    rw [read_eq l sheet (by omega), list_eq (show x.length ≤ 1000 by omega)]
    simp only [Option.bind_some]
    rw [read_eq l x (by omega)]
    simp only [Option.bind_some, h0, h0', if_true]
    have e1 : (gameA l x).fCounts = (gameA l sheet).fCounts := by unfold gameA; simp only [q2']
    have e2 : (gameA l x).fStanding = (gameA l sheet).fStanding := by unfold gameA; simp only [q2']
    have e3 : (gameA l x).fDone = (gameA l sheet).fDone := by unfold gameA; simp only [q2']
    have hcl : (gameA l sheet).fCounts.length ≤ 10 := by
      have h1 := cts_len (acc l sheet).cs (acc l sheet).E 0 0
      have h2 := E_le hV (ainv hV hk)
      show (cts _ 0 0 _).length ≤ 10
      omega
    rw [e1, e2, e3, ints_eq _ _ (by omega)]
    simp only [decide_true, Bool.not_true, Bool.false_eq_true, if_false, Option.bind_some, bne_self_eq_false]
    have hfl : (gameA l x).fFrames.flatten = x := (ginv hV q1).flat
    have hfn : (gameA l x).fFrames.length ≤ 11 := by have := frames_len hV q1 (by omega) (i := x.length); rw [List.take_length] at this; exact this
    have hl2 : loopN (fun rec5 y => law01FrameFouls_b2 1000 (gameA l x) rec5 y.1 y.2) 1000 (0, []) = some x := by
      have h := loopN_rel (ι := Nat) (b := fun rec5 y => law01FrameFouls_b2 1000 (gameA l x) rec5 y.1 y.2) (fun i => ((i : Int), ((gameA l x).fFrames.take i).flatten)) (fun _ => some x) (fun i => (gameA l x).fFrames.length - i) (fun i => i ≤ (gameA l x).fFrames.length) ?_ 1000 0 (Nat.zero_le _) (by omega)
      · exact h
      · intro i rec hi ih
        try simp only at hi ih ⊢
        unfold law01FrameFouls_b2
        by_cases hlt : i < (gameA l x).fFrames.length
        · have hx : (gameA l x).fFrames[i]? = some (gameA l x).fFrames[i] := by simp [hlt]
          have hle : (((gameA l x).fFrames.take (i + 1)).flatten).length ≤ x.length := by
            conv => rhs; rw [← hfl, ← List.take_append_drop (i + 1) (gameA l x).fFrames, List.flatten_append, List.length_append]
            omega
          rw [List.take_succ_eq_append_getElem hlt, List.flatten_append] at hle
          have hle' : ((gameA l x).fFrames.take i).flatten.length + (gameA l x).fFrames[i].length ≤ x.length := by simpa using hle
          rw [if_pos (by simpa using hlt), idx_at hx]
          simp only [Option.bind_some]
          rw [app_ok (by omega)]
          simp only [Option.bind_some]
          have := ih (i + 1) (by omega) (by omega)
          rw [List.take_succ_eq_append_getElem hlt, List.flatten_append] at this
          rw [w64_id (by omega) (by omega), show ((i : Int) + 1) = ((i + 1 : Nat) : Int) by omega]
          simpa using this
        · have : i = (gameA l x).fFrames.length := by omega
          subst this
          rw [if_neg (by simp), List.take_length, hfl]
    rw [hl2]
    simp only [Option.bind_some]
    rw [ints_eq _ _ (by omega)]
    simp
  · rw [if_pos (by rw [decide_eq_false hr]; rfl)]
end Go.Proofs.Ythjafigloabfpaa
