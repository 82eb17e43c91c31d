/-
  The law LadderTree.
-/
import Derived.Test.YtbceakhnnnfiaaaPX
import Derived.Test.YtbceakhnnnfiaaaDLadderTree
import Derived.KernelRfl
set_option linter.all false
namespace Go.Proofs.Ytbceakhnnnfiaaa
open Go.Kp
def z16 : Ar16 Int := Ar16.mk 0 0 0 0 0 0 0 0 0 0 0 0 0 0 0 0
noncomputable def lp (N : Nat) (c : Ref09Cup) (T : List LadderPair) : Option Bool := loopN (fun rec5 x => law09LadderTree_b6 N c T rec5 x.1 x.2.1 x.2.2.1 x.2.2.2.1 x.2.2.2.2) N (0, 0, z16, z16, [])
def wT (b : Bool) (P : Nat) : List Int := ((if b then [[], [], [0], [1, 0], [2, 1, 0], [3, 2, 1, 0], [4, 3, 2, 1, 0], [5, 4, 3, 2, 1, 0], [6, 5, 4, 3, 2, 1, 0], [7, 6, 5, 4, 3, 2, 1, 0], [8, 7, 6, 5, 4, 3, 2, 1, 0], [9, 8, 7, 6, 5, 4, 3, 2, 1, 0], [10, 9, 8, 7, 6, 5, 4, 3, 2, 1, 0], [11, 10, 9, 8, 7, 6, 5, 4, 3, 2, 1, 0], [12, 11, 10, 9, 8, 7, 6, 5, 4, 3, 2, 1, 0], [13, 12, 11, 10, 9, 8, 7, 6, 5, 4, 3, 2, 1, 0], [14, 13, 12, 11, 10, 9, 8, 7, 6, 5, 4, 3, 2, 1, 0]] else [[], [], [0], [1, 0], [0, 1, 0], [3, 0, 1, 0], [3, 2, 0, 1, 0], [3, 1, 2, 0, 1, 0], [0, 3, 1, 2, 0, 1, 0], [7, 0, 3, 1, 2, 0, 1, 0], [7, 6, 0, 3, 1, 2, 0, 1, 0], [7, 6, 5, 0, 3, 1, 2, 0, 1, 0], [7, 4, 6, 5, 0, 3, 1, 2, 0, 1, 0], [7, 3, 4, 6, 5, 0, 3, 1, 2, 0, 1, 0], [7, 3, 4, 6, 2, 5, 0, 3, 1, 2, 0, 1, 0], [7, 3, 4, 1, 6, 2, 5, 0, 3, 1, 2, 0, 1, 0], [0, 7, 3, 4, 1, 6, 2, 5, 0, 3, 1, 2, 0, 1, 0]]) : List (List Int)).getD P []
theorem lpt2 {k : Nat} {F G : Int} {rs : List Ref09Result} : lp (k + 4000) ⟨F, 2, G, rs⟩ ((tre true 2).map cpr) = law09LadderTree_k1 (k + 4000) ⟨F, 2, G, rs⟩ ((tre true 2).map cpr) 1 (wT true 2) := by kernel_rfl
theorem lpf2 {k : Nat} {F G : Int} {rs : List Ref09Result} : lp (k + 4000) ⟨F, 2, G, rs⟩ ((tre false 2).map cpr) = law09LadderTree_k1 (k + 4000) ⟨F, 2, G, rs⟩ ((tre false 2).map cpr) 1 (wT false 2) := by kernel_rfl
theorem lpt3 {k : Nat} {F G : Int} {rs : List Ref09Result} : lp (k + 4000) ⟨F, 3, G, rs⟩ ((tre true 3).map cpr) = law09LadderTree_k1 (k + 4000) ⟨F, 3, G, rs⟩ ((tre true 3).map cpr) 1 (wT true 3) := by kernel_rfl
theorem lpf3 {k : Nat} {F G : Int} {rs : List Ref09Result} : lp (k + 4000) ⟨F, 3, G, rs⟩ ((tre false 3).map cpr) = law09LadderTree_k1 (k + 4000) ⟨F, 3, G, rs⟩ ((tre false 3).map cpr) 1 (wT false 3) := by kernel_rfl
theorem lpt4 {k : Nat} {F G : Int} {rs : List Ref09Result} : lp (k + 4000) ⟨F, 4, G, rs⟩ ((tre true 4).map cpr) = law09LadderTree_k1 (k + 4000) ⟨F, 4, G, rs⟩ ((tre true 4).map cpr) 1 (wT true 4) := by kernel_rfl
theorem lpf4 {k : Nat} {F G : Int} {rs : List Ref09Result} : lp (k + 4000) ⟨F, 4, G, rs⟩ ((tre false 4).map cpr) = law09LadderTree_k1 (k + 4000) ⟨F, 4, G, rs⟩ ((tre false 4).map cpr) 1 (wT false 4) := by kernel_rfl
theorem lpt5 {k : Nat} {F G : Int} {rs : List Ref09Result} : lp (k + 4000) ⟨F, 5, G, rs⟩ ((tre true 5).map cpr) = law09LadderTree_k1 (k + 4000) ⟨F, 5, G, rs⟩ ((tre true 5).map cpr) 1 (wT true 5) := by kernel_rfl
theorem lpf5 {k : Nat} {F G : Int} {rs : List Ref09Result} : lp (k + 4000) ⟨F, 5, G, rs⟩ ((tre false 5).map cpr) = law09LadderTree_k1 (k + 4000) ⟨F, 5, G, rs⟩ ((tre false 5).map cpr) 1 (wT false 5) := by kernel_rfl
theorem lpt6 {k : Nat} {F G : Int} {rs : List Ref09Result} : lp (k + 4000) ⟨F, 6, G, rs⟩ ((tre true 6).map cpr) = law09LadderTree_k1 (k + 4000) ⟨F, 6, G, rs⟩ ((tre true 6).map cpr) 1 (wT true 6) := by kernel_rfl
theorem lpf6 {k : Nat} {F G : Int} {rs : List Ref09Result} : lp (k + 4000) ⟨F, 6, G, rs⟩ ((tre false 6).map cpr) = law09LadderTree_k1 (k + 4000) ⟨F, 6, G, rs⟩ ((tre false 6).map cpr) 1 (wT false 6) := by kernel_rfl
theorem lpt7 {k : Nat} {F G : Int} {rs : List Ref09Result} : lp (k + 4000) ⟨F, 7, G, rs⟩ ((tre true 7).map cpr) = law09LadderTree_k1 (k + 4000) ⟨F, 7, G, rs⟩ ((tre true 7).map cpr) 1 (wT true 7) := by kernel_rfl
theorem lpf7 {k : Nat} {F G : Int} {rs : List Ref09Result} : lp (k + 4000) ⟨F, 7, G, rs⟩ ((tre false 7).map cpr) = law09LadderTree_k1 (k + 4000) ⟨F, 7, G, rs⟩ ((tre false 7).map cpr) 1 (wT false 7) := by kernel_rfl
theorem lpt8 {k : Nat} {F G : Int} {rs : List Ref09Result} : lp (k + 4000) ⟨F, 8, G, rs⟩ ((tre true 8).map cpr) = law09LadderTree_k1 (k + 4000) ⟨F, 8, G, rs⟩ ((tre true 8).map cpr) 1 (wT true 8) := by kernel_rfl
theorem lpf8 {k : Nat} {F G : Int} {rs : List Ref09Result} : lp (k + 4000) ⟨F, 8, G, rs⟩ ((tre false 8).map cpr) = law09LadderTree_k1 (k + 4000) ⟨F, 8, G, rs⟩ ((tre false 8).map cpr) 1 (wT false 8) := by kernel_rfl
theorem lpt9 {k : Nat} {F G : Int} {rs : List Ref09Result} : lp (k + 4000) ⟨F, 9, G, rs⟩ ((tre true 9).map cpr) = law09LadderTree_k1 (k + 4000) ⟨F, 9, G, rs⟩ ((tre true 9).map cpr) 1 (wT true 9) := by kernel_rfl
theorem lpf9 {k : Nat} {F G : Int} {rs : List Ref09Result} : lp (k + 4000) ⟨F, 9, G, rs⟩ ((tre false 9).map cpr) = law09LadderTree_k1 (k + 4000) ⟨F, 9, G, rs⟩ ((tre false 9).map cpr) 1 (wT false 9) := by kernel_rfl
theorem lpt10 {k : Nat} {F G : Int} {rs : List Ref09Result} : lp (k + 4000) ⟨F, 10, G, rs⟩ ((tre true 10).map cpr) = law09LadderTree_k1 (k + 4000) ⟨F, 10, G, rs⟩ ((tre true 10).map cpr) 1 (wT true 10) := by kernel_rfl
theorem lpf10 {k : Nat} {F G : Int} {rs : List Ref09Result} : lp (k + 4000) ⟨F, 10, G, rs⟩ ((tre false 10).map cpr) = law09LadderTree_k1 (k + 4000) ⟨F, 10, G, rs⟩ ((tre false 10).map cpr) 1 (wT false 10) := by kernel_rfl
theorem lpt11 {k : Nat} {F G : Int} {rs : List Ref09Result} : lp (k + 4000) ⟨F, 11, G, rs⟩ ((tre true 11).map cpr) = law09LadderTree_k1 (k + 4000) ⟨F, 11, G, rs⟩ ((tre true 11).map cpr) 1 (wT true 11) := by kernel_rfl
theorem lpf11 {k : Nat} {F G : Int} {rs : List Ref09Result} : lp (k + 4000) ⟨F, 11, G, rs⟩ ((tre false 11).map cpr) = law09LadderTree_k1 (k + 4000) ⟨F, 11, G, rs⟩ ((tre false 11).map cpr) 1 (wT false 11) := by kernel_rfl
theorem lpt12 {k : Nat} {F G : Int} {rs : List Ref09Result} : lp (k + 4000) ⟨F, 12, G, rs⟩ ((tre true 12).map cpr) = law09LadderTree_k1 (k + 4000) ⟨F, 12, G, rs⟩ ((tre true 12).map cpr) 1 (wT true 12) := by kernel_rfl
theorem lpf12 {k : Nat} {F G : Int} {rs : List Ref09Result} : lp (k + 4000) ⟨F, 12, G, rs⟩ ((tre false 12).map cpr) = law09LadderTree_k1 (k + 4000) ⟨F, 12, G, rs⟩ ((tre false 12).map cpr) 1 (wT false 12) := by kernel_rfl
theorem lpt13 {k : Nat} {F G : Int} {rs : List Ref09Result} : lp (k + 4000) ⟨F, 13, G, rs⟩ ((tre true 13).map cpr) = law09LadderTree_k1 (k + 4000) ⟨F, 13, G, rs⟩ ((tre true 13).map cpr) 1 (wT true 13) := by kernel_rfl
theorem lpf13 {k : Nat} {F G : Int} {rs : List Ref09Result} : lp (k + 4000) ⟨F, 13, G, rs⟩ ((tre false 13).map cpr) = law09LadderTree_k1 (k + 4000) ⟨F, 13, G, rs⟩ ((tre false 13).map cpr) 1 (wT false 13) := by kernel_rfl
theorem lpt14 {k : Nat} {F G : Int} {rs : List Ref09Result} : lp (k + 4000) ⟨F, 14, G, rs⟩ ((tre true 14).map cpr) = law09LadderTree_k1 (k + 4000) ⟨F, 14, G, rs⟩ ((tre true 14).map cpr) 1 (wT true 14) := by kernel_rfl
theorem lpf14 {k : Nat} {F G : Int} {rs : List Ref09Result} : lp (k + 4000) ⟨F, 14, G, rs⟩ ((tre false 14).map cpr) = law09LadderTree_k1 (k + 4000) ⟨F, 14, G, rs⟩ ((tre false 14).map cpr) 1 (wT false 14) := by kernel_rfl
theorem lpt15 {k : Nat} {F G : Int} {rs : List Ref09Result} : lp (k + 4000) ⟨F, 15, G, rs⟩ ((tre true 15).map cpr) = law09LadderTree_k1 (k + 4000) ⟨F, 15, G, rs⟩ ((tre true 15).map cpr) 1 (wT true 15) := by kernel_rfl
theorem lpf15 {k : Nat} {F G : Int} {rs : List Ref09Result} : lp (k + 4000) ⟨F, 15, G, rs⟩ ((tre false 15).map cpr) = law09LadderTree_k1 (k + 4000) ⟨F, 15, G, rs⟩ ((tre false 15).map cpr) 1 (wT false 15) := by kernel_rfl
theorem lpt16 {k : Nat} {F G : Int} {rs : List Ref09Result} : lp (k + 4000) ⟨F, 16, G, rs⟩ ((tre true 16).map cpr) = law09LadderTree_k1 (k + 4000) ⟨F, 16, G, rs⟩ ((tre true 16).map cpr) 1 (wT true 16) := by kernel_rfl
theorem lpf16 {k : Nat} {F G : Int} {rs : List Ref09Result} : lp (k + 4000) ⟨F, 16, G, rs⟩ ((tre false 16).map cpr) = law09LadderTree_k1 (k + 4000) ⟨F, 16, G, rs⟩ ((tre false 16).map cpr) 1 (wT false 16) := by kernel_rfl

theorem lp_eq {N : Nat} (hN : 4000 ≤ N) (c : Ref09Cup) (b : Bool) (h1 : 2 ≤ c.fPlayers) (h2 : c.fPlayers ≤ 16) : lp N c ((tre b c.fPlayers.toNat).map cpr) = law09LadderTree_k1 N c ((tre b c.fPlayers.toNat).map cpr) 1 (wT b c.fPlayers.toNat) := by
  obtain ⟨k, rfl⟩ : ∃ k, N = k + 4000 := ⟨N - 4000, by omega⟩
  obtain ⟨F, P, G, rs⟩ := c
  cases b
  · rcases pcases h1 h2 with rfl | rfl | rfl | rfl | rfl | rfl | rfl | rfl | rfl | rfl | rfl | rfl | rfl | rfl | rfl
    · exact lpf2
    · exact lpf3
    · exact lpf4
    · exact lpf5
    · exact lpf6
    · exact lpf7
    · exact lpf8
    · exact lpf9
    · exact lpf10
    · exact lpf11
    · exact lpf12
    · exact lpf13
    · exact lpf14
    · exact lpf15
    · exact lpf16
  · rcases pcases h1 h2 with rfl | rfl | rfl | rfl | rfl | rfl | rfl | rfl | rfl | rfl | rfl | rfl | rfl | rfl | rfl
    · exact lpt2
    · exact lpt3
    · exact lpt4
    · exact lpt5
    · exact lpt6
    · exact lpt7
    · exact lpt8
    · exact lpt9
    · exact lpt10
    · exact lpt11
    · exact lpt12
    · exact lpt13
    · exact lpt14
    · exact lpt15
    · exact lpt16
def wtB (b : Bool) (P : Nat) : Bool := decide ((wT b P).length = P - 1) && (decide ((wT b P)[P - 2]? = some 0) && (!b || decide (((tre b P).getD (P - 2) dP).fFirst = ⟨0, -1⟩)))
theorem wt_ok : ∀ b : Bool, ∀ P, P < 17 → 2 ≤ P → wtB b P = true := by decide +kernel
theorem tree_true {N : Nat} (hN : 4000 ≤ N) (c0 : Ref09Cup) : law09LadderTree N c0 = some true := by
  unfold law09LadderTree
  obtain ⟨c, hc⟩ : ∃ c : Ref09Cup, c = ⟨c0.fForm, c0.fPlayers, c0.fGames, []⟩ := ⟨_, rfl⟩
  have hcr : c.fResults = [] := by rw [hc]
  have hs : Sz c := ⟨by rw [hcr]; simp, fun r hr => by rw [hcr] at hr; cases hr⟩
  have hp : c.fPlayers = c0.fPlayers := by rw [hc]
  have hfm : c.fForm = c0.fForm := by rw [hc]
  rw [← hc, isForm_eq, Option.bind_some, wakes_ok hN]
  by_cases hf : form c = true
  rotate_left
  · simp [hf]
  have ff := form_iff.1 hf
  have hl := T_len hf
  rw [hp] at ff hl
  simp only [hf, Bool.not_true, Bool.false_eq_true, if_false, cup_eq hN c hs, Option.bind_some, tree_eq hN c, if_true, decide_true, List.length_map, hl, w64_id (n := c0.fPlayers - 1) (by omega) (by omega)]
  have hT : T c = tre (decide (c0.fForm = 1)) c0.fPlayers.toNat := by unfold T; rw [hp, hfm]
  have key : lp N c0 ((T c).map cpr) = some true := by
    rw [hT, lp_eq hN c0 _ ff.2.1 ff.2.2.1]
    have hb := wt_ok (decide (c0.fForm = 1)) c0.fPlayers.toNat (by omega) (by omega)
    simp only [wtB, Bool.and_eq_true, decide_eq_true_eq] at hb
    obtain ⟨b1, b2, b3⟩ := hb
    have htl : (tre (decide (c0.fForm = 1)) c0.fPlayers.toNat).length = c0.fPlayers.toNat - 1 := by rw [← hT]; omega
    have hi : ((tre (decide (c0.fForm = 1)) c0.fPlayers.toNat).map cpr)[c0.fPlayers.toNat - 2]? = some (cpr ((tre (decide (c0.fForm = 1)) c0.fPlayers.toNat).getD (c0.fPlayers.toNat - 2) dP)) := by
      rw [List.getElem?_map, getT (by omega)]; rfl
    unfold law09LadderTree_k1
    rw [List.length_map, htl, b1, w64_id (by omega) (by omega)]
    rw [show (((c0.fPlayers.toNat - 1 : Nat) : Int) - 1) = ((c0.fPlayers.toNat - 2 : Nat) : Int) from by omega, idx_at hi, idx_at b2, wakes_ok hN]
    simp only [Option.bind_some, decide_true, if_true]
    by_cases e : c0.fForm = 1
    · simp only [e, decide_true, Bool.not_true, Bool.false_or, decide_eq_true_eq] at b3
      have : (cpr ((tre (decide (c0.fForm = 1)) c0.fPlayers.toNat).getD (c0.fPlayers.toNat - 2) dP)).fFirst = ⟨0, -1⟩ := by
        simp only [e, decide_true]
        unfold cpr csd
        rw [b3]
      rw [this]
      simp [e]
    · simp [e]
  exact key
end Go.Proofs.Ytbceakhnnnfiaaa
