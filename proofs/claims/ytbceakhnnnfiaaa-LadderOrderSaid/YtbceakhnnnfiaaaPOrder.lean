/-
  The law LadderOrder.
-/
import Derived.Test.YtbceakhnnnfiaaaPQ
import Derived.Test.YtbceakhnnnfiaaaDLadderOrder
set_option linter.all false
namespace Go.Proofs.Ytbceakhnnnfiaaa
open Go.Kp
theorem order_true {N : Nat} (hN : 4000 ≤ N) (c : Ref09Cup) (b : Int) (hb : 0 ≤ b ∧ b ≤ 255) : law09LadderOrder N c b = some true := by
  unfold law09LadderOrder
  rw [ready_eq hN, Option.bind_some, wakes_ok hN]
  by_cases h : ready c = true
  rotate_left
  · simp [h]
  obtain ⟨ht, hv⟩ := ready_iff.1 h
  have hs := thin_sz ht
  have hs2 := hs.r
  by_cases hl : c.fResults.length = 0
  · have : (c.fResults.length : Int) = 0 := by omega
    simp [h, this]
  have hl' : ¬ (c.fResults.length : Int) = 0 := by omega
  have ew : w64 b = b := w64_id (by omega) (by omega)
  have hpos : (0 : Int) < (c.fResults.length : Int) := by omega
  have et : Int.tmod b (c.fResults.length : Int) = b % (c.fResults.length : Int) := Int.tmod_eq_emod_of_nonneg hb.1
  have h0 := Int.emod_nonneg b hl'
  have h1 := Int.emod_lt_of_pos b hpos
  simp only [h, Bool.not_true, Bool.false_eq_true, if_false, hl', decide_false, Option.bind_some, nz_ok hl', ew, et]
  generalize b % (c.fResults.length : Int) = t at *
  rw [slc_ok h0 (by omega) (by omega), slc_ok (by omega) h0 (by omega)]
  simp only [Option.bind_some, Int.toNat_natCast, List.take_length, Int.toNat_zero, List.drop_zero]
  rw [app_ok (by simp; omega)]
  simp only [Option.bind_some, List.nil_append]
  rw [app_ok (by simp; omega)]
  simp only [Option.bind_some]
  have hperm : c.fResults.Perm (c.fResults.drop t.toNat ++ c.fResults.take t.toNat) := by
    have := List.perm_append_comm (l₁ := c.fResults.take t.toNat) (l₂ := c.fResults.drop t.toNat)
    rwa [List.take_append_drop] at this
  have hvx : Val ⟨c.fForm, c.fPlayers, c.fGames, c.fResults.drop t.toNat ++ c.fResults.take t.toNat⟩ := val_perm hv rfl rfl rfl hperm
  have hr := res_perm (x := ⟨c.fForm, c.fPlayers, c.fGames, c.fResults.drop t.toNat ++ c.fResults.take t.toNat⟩) hperm hv.dup
  have hk : Kin c ⟨c.fForm, c.fPlayers, c.fGames, c.fResults.drop t.toNat ++ c.fResults.take t.toNat⟩ := kin_res rfl rfl rfl hr
  have hp : ∀ n, prot ⟨c.fForm, c.fPlayers, c.fGames, c.fResults.drop t.toNat ++ c.fResults.take t.toNat⟩ n = prot c n := fun n => by unfold prot; rw [hr]
  have hg : ∀ n, gm ⟨c.fForm, c.fPlayers, c.fGames, c.fResults.drop t.toNat ++ c.fResults.take t.toNat⟩ n = gm c n := fun n => by unfold gm; rw [hr]
  have e1 := hk.mays hp
  have e2 := hk.hangs hp
  have e3 := hk.nexts hg
  generalize (⟨c.fForm, c.fPlayers, c.fGames, c.fResults.drop t.toNat ++ c.fResults.take t.toNat⟩ : Ref09Cup) = x at *
  have hsx := hvx.sz
  have q := val_iff.2 hv
  have qx := val_iff.2 hvx
  have hml : (mays c).length ≤ 3000 := by
    have := hv.ff; unfold mays mayl; exact Nat.le_trans (List.length_filterMap_le _ _) (by simp; omega)
  have hhl : (hangs c).length ≤ 3000 := by
    have := hv.ff; have := hv.len; unfold hangs hangl; exact Nat.le_trans (List.length_filterMap_le _ _) (by simp; omega)
  have hnl : (nexts c).length ≤ 3000 := by
    have := hv.ff; have := hv.len; have := nextl_len c (T c).length; unfold nexts; omega
  rw [cup_eq hN c hs, cup_eq hN x hsx]
  simp only [Option.bind_some, mayWin_eq hN c hs.r, mayWin_eq hN x hsx.r, hangs_eq hN c hs.r, hangs_eq hN x hsx.r, next_eq hN c hs.r, next_eq hN x hsx.r, q, qx, if_true, decide_true, Bool.not_true, Bool.false_eq_true, if_false, e1, e2, e3, ints_eq hN _ _ hml, ints_eq hN _ _ hhl]
  have key := loop_list0 (N := N) (B := fun rec3 x => law09LadderOrder_b2 N (nexts c) (nexts c) rec3 x) (nexts c) (fun i => (i : Int)) (fun _ => some true)
    (fun rec => by
      show law09LadderOrder_b2 N _ _ rec _ = _
      rw [law09LadderOrder_b2, if_neg (by simp)]
      unfold law09LadderOrder_k1
      rw [wakes_ok hN]; rfl)
    (fun i x rec hx hh => by
      have hlt := len_lt hx
      show law09LadderOrder_b2 N _ _ rec (i : Int) = _
      rw [law09LadderOrder_b2, if_pos (decide_eq_true (by omega)), idx_at hx, w64_succ (i := i) (by omega), hh]
      simp) (by omega)
  exact key
end Go.Proofs.Ytbceakhnnnfiaaa
