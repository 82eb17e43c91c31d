/-
  The law FrameSpares, typed, is true.
-/
import Derived.Test.YthjafigloabfpaaPI
import Derived.Test.YthjafigloabfpaaPW
import Derived.Test.YthjafigloabfpaaDFrameSpares
set_option linter.all false
namespace Go.Proofs.Ythjafigloabfpaa
open Go.Kp

def pairs (k q : Int) : Nat → List Int
  | 0 => []
  | j + 1 => pairs k q j ++ [k, q]
theorem pairs_len (k q : Int) : ∀ j, (pairs k q j).length = 2 * j
  | 0 => rfl
  | j + 1 => by simp [pairs, pairs_len k q j]; omega

theorem ok_snoc {l : Ref01Law} {xs : List Int} {b : Int} : Ok l (s0 l) (xs ++ [b]) ↔ Ok l (s0 l) xs ∧ may l (acc l xs).s b := by
  rw [ok_app, acc_s]
  exact ⟨fun h => ⟨h.1, h.2.1⟩, fun h => ⟨h.1, h.2, trivial⟩⟩

section
variable {l : Ref01Law} (hV : V l) {k : Int} (h0 : 0 ≤ k) (hk : k < l.fTap)
include hV h0 hk

theorem one_ball {s : S} (hf : s.f < l.fFrames) (hs : s.h = 0) (hp : s.p = l.fPins) (hn : s.nd = l.fBalls) : cnt l s k = k ∧ nxt l s k = ⟨s.f, 1, l.fPins - k, false, l.fBalls, s.c, 0⟩ := by
  have := hV.t2; have := hV.b1
  have e1 : max 0 k = k := by omega
  have e : cnt l s k = k := by
    unfold cnt
    rw [e1, if_neg (by rintro ⟨_, h⟩; omega)]
  refine ⟨e, ?_⟩
  unfold nxt nxtn
  rw [e, hp, hs, hn]
  have hpk : ¬ l.fPins = k := by omega
  have hb : ¬ (0 : Int) + 1 = l.fBalls := by omega
  simp [hpk]
  omega

theorem cnt_rest {s : S} (hfr : s.fr = false) (hp : s.p = l.fPins - k) : cnt l s (l.fPins - k) = l.fPins - k := by
  have := hV.t2
  have e1 : max 0 (l.fPins - k) = l.fPins - k := by omega
  unfold cnt
  rw [hfr, e1]; simp

theorem pair_step (j : Nat) (hj : (j : Int) < l.fFrames - 1) {xs : List Int} (hx : Ok l (s0 l) xs) {a c : Int} (hs : (acc l xs).s = ⟨j, 0, l.fPins, true, l.fBalls, a, 0⟩) :
    Ok l (s0 l) (xs ++ [k, l.fPins - k]) ∧ (acc l (xs ++ [k, l.fPins - k])).s = ⟨(j + 1 : Nat), 0, l.fPins, true, l.fBalls, 1, 0⟩ ∧ (acc l (xs ++ [k, l.fPins - k])).tot = (acc l xs).tot + k * (1 + a) + (l.fPins - k) := by
  have t2 := hV.t2
  obtain ⟨e1, e2⟩ := one_ball hV h0 hk (s := (acc l xs).s) (by rw [hs]; simp only; omega) (by rw [hs]) (by rw [hs]) (by rw [hs])
  have hm1 : may l (acc l xs).s k := by rw [hs]; exact ⟨by simp only; omega, by omega, by simp only; omega⟩
  have ho1 : Ok l (s0 l) (xs ++ [k]) := ok_snoc.2 ⟨hx, hm1⟩
  have hs1 : (acc l (xs ++ [k])).s = ⟨j, 1, l.fPins - k, false, l.fBalls, 0, 0⟩ := by
    rw [acc_snoc]; show nxt l (acc l xs).s k = _; rw [e2, hs]
  have hm2 : may l (acc l (xs ++ [k])).s (l.fPins - k) := by rw [hs1]; exact ⟨by simp only; omega, by omega, by simp only; omega⟩
  have e3 : cnt l (acc l (xs ++ [k])).s (l.fPins - k) = l.fPins - k := cnt_rest hV h0 hk (by rw [hs1]) (by rw [hs1])
  have el : xs ++ [k, l.fPins - k] = (xs ++ [k]) ++ [l.fPins - k] := by simp
  rw [el]
  refine ⟨ok_snoc.2 ⟨ho1, hm2⟩, ?_, ?_⟩
  · rw [acc_snoc]
    show nxt l (acc l (xs ++ [k])).s (l.fPins - k) = _
    unfold nxt nxtn
    rw [e3, hs1]
    simp only
    rw [if_neg (by omega)]
    simp
  · rw [acc_snoc]
    show (acc l (xs ++ [k])).tot + wor l (acc l (xs ++ [k])).s (l.fPins - k) = _
    unfold wor
    rw [e3, hs1, acc_snoc]
    show (acc l xs).tot + wor l (acc l xs).s k + _ = _
    unfold wor
    rw [e1, hs]
    simp

theorem pairs_acc : ∀ (j : Nat), (j : Int) ≤ l.fFrames - 1 → Ok l (s0 l) (pairs k (l.fPins - k) j) ∧ (acc l (pairs k (l.fPins - k) j)).s = ⟨j, 0, l.fPins, true, l.fBalls, if j = 0 then 0 else 1, 0⟩ ∧
      (acc l (pairs k (l.fPins - k) j)).tot = if j = 0 then 0 else (j : Int) * (l.fPins + k) - k := by
  intro j
  induction j with
  | zero => intro _; exact ⟨trivial, rfl, rfl⟩
  | succ j ih =>
    intro hj
    obtain ⟨i1, i2, i3⟩ := ih (by omega)
    obtain ⟨p1, p2, p3⟩ := pair_step hV h0 hk j (by omega) i1 (c := 0) i2
    refine ⟨p1, ?_, ?_⟩
    · show (acc l (pairs k (l.fPins - k) j ++ [k, l.fPins - k])).s = _
      rw [p2]; simp
    · show (acc l (pairs k (l.fPins - k) j ++ [k, l.fPins - k])).tot = _
      rw [p3, i3]
      by_cases hz : j = 0
      · subst hz; simp; omega
      · rw [if_neg hz, if_neg hz, if_neg (by omega)]
        rw [show (((j + 1 : Nat) : Int)) = (j : Int) + 1 by omega, Int.add_mul]
        omega

/-- the whole sheet -/
theorem spare_all : Ok l (s0 l) (pairs k (l.fPins - k) l.fFrames.toNat ++ [k]) ∧ (acc l (pairs k (l.fPins - k) l.fFrames.toNat ++ [k])).s.f = l.fFrames ∧
    (acc l (pairs k (l.fPins - k) l.fFrames.toNat ++ [k])).tot = l.fFrames * (l.fPins + k) := by
  have f1 := hV.f1; have t2 := hV.t2; have b1 := hV.b1; have b2 := hV.b2
  obtain ⟨n, hn⟩ : ∃ n : Nat, l.fFrames.toNat = n + 1 := ⟨l.fFrames.toNat - 1, by omega⟩
  have hF : l.fFrames = (n : Int) + 1 := by omega
  obtain ⟨i1, i2, i3⟩ := pairs_acc hV h0 hk n (by omega)
  rw [hn]
  have el : pairs k (l.fPins - k) (n + 1) ++ [k] = ((pairs k (l.fPins - k) n ++ [k]) ++ [l.fPins - k]) ++ [k] := by simp [pairs]
  rw [el]
  generalize pairs k (l.fPins - k) n = xs at *
  obtain ⟨e1, e2⟩ := one_ball hV h0 hk (s := (acc l xs).s) (by rw [i2]; simp only; omega) (by rw [i2]) (by rw [i2]) (by rw [i2])
  have hm1 : may l (acc l xs).s k := by rw [i2]; exact ⟨by simp only; omega, by omega, by simp only; omega⟩
  have ho1 : Ok l (s0 l) (xs ++ [k]) := ok_snoc.2 ⟨i1, hm1⟩
  have hs1 : (acc l (xs ++ [k])).s = ⟨n, 1, l.fPins - k, false, l.fBalls, 0, 0⟩ := by
    rw [acc_snoc]; show nxt l (acc l xs).s k = _; rw [e2, i2]
  have hm2 : may l (acc l (xs ++ [k])).s (l.fPins - k) := by rw [hs1]; exact ⟨by simp only; omega, by omega, by simp only; omega⟩
  have e3 : cnt l (acc l (xs ++ [k])).s (l.fPins - k) = l.fPins - k := cnt_rest hV h0 hk (by rw [hs1]) (by rw [hs1])
  have ho2 := ok_snoc.2 ⟨ho1, hm2⟩
  have hs2 : (acc l (xs ++ [k] ++ [l.fPins - k])).s = ⟨n, 2, l.fPins, true, 3, 0, 0⟩ := by
    rw [acc_snoc]
    show nxt l (acc l (xs ++ [k])).s (l.fPins - k) = _
    unfold nxt nxtn
    rw [e3, hs1]
    simp only
    rw [if_pos (by omega)]
    simp
  have hm3 : may l (acc l (xs ++ [k] ++ [l.fPins - k])).s k := by rw [hs2]; exact ⟨by simp only; omega, by omega, by simp only; omega⟩
  have e4 : cnt l (acc l (xs ++ [k] ++ [l.fPins - k])).s k = k := by
    have em : max 0 k = k := by omega
    unfold cnt
    rw [em, if_neg (by rintro ⟨_, h⟩; omega)]
  refine ⟨ok_snoc.2 ⟨ho2, hm3⟩, ?_, ?_⟩
  · rw [acc_snoc]
    show (nxt l (acc l (xs ++ [k] ++ [l.fPins - k])).s k).f = _
    unfold nxt nxtn
    rw [e4, hs2]
    simp only
    rw [if_pos (by omega), if_neg (by omega), if_pos (by omega)]
    simp only; omega
  · rw [acc_snoc]
    show (acc l (xs ++ [k] ++ [l.fPins - k])).tot + wor l (acc l (xs ++ [k] ++ [l.fPins - k])).s k = _
    unfold wor
    rw [e4, hs2, acc_snoc]
    show (acc l (xs ++ [k])).tot + wor l (acc l (xs ++ [k])).s (l.fPins - k) + _ = _
    unfold wor
    rw [e3, hs1, acc_snoc]
    show (acc l xs).tot + wor l (acc l xs).s k + _ + _ = _
    unfold wor
    rw [e1, i2, i3, hF, Int.add_mul]
    by_cases hz : n = 0
    · subst hz; simp; omega
    · rw [if_neg hz, if_neg hz]
      simp only
      omega
end

theorem spares_ok (l : Ref01Law) (pins : Int) (hp : 0 ≤ pins ∧ pins ≤ 255) : law01FrameSpares 1000 l pins = some true := by
  unfold law01FrameSpares
  simp only [isLaw_eq, wakes_ok, Option.bind_some]
  by_cases hV : V l
  · have t1 := hV.t1; have t2 := hV.t2; have p2 := hV.p2; have f1 := hV.f1; have f2 := hV.f2
    rw [if_neg (by simp [hV])]
    have hnz : nz l.fTap = some () := by unfold nz; rw [if_neg (by omega)]
    rw [hnz, w64_id (n := pins) (by omega) (by omega)]
    simp only [Option.bind_some]
    have hk0 : 0 ≤ Int.tmod pins l.fTap := Int.tmod_nonneg _ hp.1
    have hk1 : Int.tmod pins l.fTap < l.fTap := Int.tmod_lt_of_pos _ (by omega)
    generalize Int.tmod pins l.fTap = k at *
    have hl : loopN (fun rec3 x => law01FrameSpares_b1 1000 l rec3 x.1 x.2.1 x.2.2) 1000 (k, 0, []) = some (k, pairs k (l.fPins - k) l.fFrames.toNat) := by
      have h := loopN_rel (ι := Nat) (b := fun rec3 x => law01FrameSpares_b1 1000 l rec3 x.1 x.2.1 x.2.2) (fun j => (k, (j : Int), pairs k (l.fPins - k) j)) (fun _ => some (k, pairs k (l.fPins - k) l.fFrames.toNat)) (fun j => l.fFrames.toNat - j)
        (fun j => j ≤ l.fFrames.toNat) ?_ 1000 0 (Nat.zero_le _) (by omega)
      · exact h
      · intro j rec hj ih
        try simp only at hj ih ⊢
        unfold law01FrameSpares_b1
        by_cases hlt : (j : Int) < l.fFrames
        · rw [if_pos (by simpa using hlt), w64_id (by omega) (by omega), app_ok (by rw [pairs_len]; simp; omega)]
          simp only [Option.bind_some]
          rw [w64_id (by omega) (by omega)]
          have := ih (j + 1) (by omega) (by omega)
          rw [show ((j : Int) + 1) = ((j + 1 : Nat) : Int) by omega]
          exact this
        · have : j = l.fFrames.toNat := by omega
          subst this
          rw [if_neg (by simpa using hlt)]
    rw [hl]
    simp only [Option.bind_some, law_eq]
    obtain ⟨q1, q2, q3⟩ := spare_all hV hk0 hk1
    rw [app_ok (by rw [pairs_len]; simp; omega)]
    simp only [Option.bind_some]
    have hlen := ok_len hV q1
    have hq : flt l (pairs k (l.fPins - k) l.fFrames.toNat ++ [k]) = 0 := flt_ok.2 ⟨hV, by omega, q1⟩
    rw [read_eq l _ (by omega)]
    simp only [Option.bind_some, hq, if_true]
    have hd : (gameA l (pairs k (l.fPins - k) l.fFrames.toNat ++ [k])).fDone = true := by simp [gameA, q2]
    have hc : (gameA l (pairs k (l.fPins - k) l.fFrames.toNat ++ [k])).fCounts = ctsA (acc l (pairs k (l.fPins - k) l.fFrames.toNat ++ [k])) := rfl
    have h1 := done_len hV q1 q2
    have h2 := done_last hV q1 q2
    have k1 : 0 ≤ l.fFrames * (l.fPins + k) := Int.mul_nonneg (by omega) (by omega)
    have k2 : l.fFrames * (l.fPins + k) ≤ 10 * 20 := Int.mul_le_mul (by omega) (by omega) (by omega) (by omega)
    rw [hd, hc, h1, w64_id (n := l.fFrames - 1) (by omega) (by omega), h2, w64_id (n := l.fPins + k) (by omega) (by omega), w64_id (by omega) (by omega), q3]
    simp
  · simp [hV]
end Go.Proofs.Ythjafigloabfpaa
