/-
 The plain part.
-/
import Derived.Test.YtiaoloodgildeaaGreatDoorDef
import Derived.KernelRfl
set_option linter.all false
namespace Go.Proofs.YtiaoloodgildeaaGreatDoor
open Go.Kp
set_option maxRecDepth 100000
theorem loopW_ok {σ R : Type} {b : (σ → WP R) → σ → WP R} {n : Nat} {x : σ} {Q : R → Prop} (h : b (loopW b n) x Q) : loopW b (n + 1) x Q := h
theorem bindO_ok {α R : Type} {x : Option α} {a : α} {k : α → WP R} {Q : R → Prop} (e : x = some a) (h : k a Q) : bindO x k Q := ⟨a, e, h⟩
theorem nextW_nil {α R : Type} {a : WP R} {b : α → List α → WP R} {Q : R → Prop} (h : a Q) : nextW [] a b Q := ⟨fun _ => h, fun pre e post hs => by cases pre <;> cases hs⟩
theorem nextW_one {α R : Type} {x : α} {a : WP R} {b : α → List α → WP R} {Q : R → Prop} (h : b x [] Q) : nextW [x] a b Q := by
 refine ⟨fun e => (by cases e), fun pre e post hs => ?_⟩
 cases pre with
 | nil => cases hs; exact h
 | cons y l => cases l <;> cases hs
theorem bindW_ok {α R : Type} {x : WP α} {k : α → WP R} {Q : R → Prop} (h : x fun a => k a Q) : Go.Kp.bindW x k Q := h
theorem WGood.bindW {α R : Type} {x : WP α} {k : α → WP R} (hx : WGood x) (h : ∀ a, WGood (k a)) : WGood (Go.Kp.bindW x k) :=
 ⟨fun q => hx.no (hx.mono _ _ (fun a z => ((h a).no z).elim) q), fun P Q p q => hx.mono _ _ (fun a z => (h a).and P Q z.1 z.2) (hx.and _ _ p q), fun P Q m p => hx.mono _ _ (fun a z => (h a).mono P Q m z) p⟩
theorem ite_no {R : Type} {c : Prop} [Decidable c] {a b : WP R} {Q : R → Prop} (hc : ¬ c) (h : b Q) : (if c then a else b) Q := by rw [if_neg hc]; exact h
theorem counting_ok : rateCounting 4000 (RateBook.mk (RateLaw.mk 90 80 40 3 5) [70, 60] [] []) = some ([], 0) := by
 unfold rateCounting
 refine det_eq ?_ ?_
 ·refine WGood.bindO fun z => ?_
  obtain ⟨_, _, _, _, _, _, _, _, _, _⟩ := z
  refine .ite (.ret _) (WGood.loop (fun rec x hr => ?_) _ _)
  unfold rateCountingW_b2 rateCountingW_k1
  exact .next (.bindO fun _ => .ret _) fun ⟨_, _⟩ _ => .bindO fun _ => hr _
 ·unfold rateCountingW
  refine bindO_ok (a := (0, 90, 80, 40, 3, 5, [70, 60], [], [], [])) (by kernel_rfl) ?_
  dsimp only
  refine ite_no (by decide) ?_
  refine loopW_ok (n := 3999) ?_
  unfold rateCountingW_b2
  refine nextW_nil ?_
  unfold rateCountingW_k1
  refine bindO_ok (a := []) (by simp [sortI]) ?_
  rfl
theorem best_good (N : Nat) (c1 c2 c3 : Int) (c4 : List LadderResult) (c5 : List LadderPair) (m1 : List (Int × LadderResult)) (l1 : List (Ar2 Int)) : WGood (ladderDrawBest N c1 c2 c3 c4 c5 m1 l1) := by
 unfold ladderDrawBest
 refine WGood.loop (fun rec x hr => ?_) _ _
 unfold ladderDrawBest_b15
 refine .ite (.bindO fun _ => .bindO fun _ => WGood.loop (fun rec2 y hr2 => ?_) _ _) (by unfold ladderDrawBest_k1; exact .ret _)
 unfold ladderDrawBest_b14
 refine .next (by unfold ladderDrawBest_k2; exact hr _) (fun ⟨_, _⟩ _ => .bindO fun _ => WGood.loop (fun rec3 z hr3 => ?_) _ _)
 unfold ladderDrawBest_b13
 have k3 : ∀ a b, WGood (ladderDrawBest_k3 N rec3 a b) := fun a b => by unfold ladderDrawBest_k3; exact hr3 _
 have k4 : ∀ a b c d e f, WGood (ladderDrawBest_k4 N a rec3 b c d e f) := fun a b c d e f => by unfold ladderDrawBest_k4; exact .ite (k3 _ _) (k3 _ _)
 have k5 : ∀ a b c d e, WGood (ladderDrawBest_k5 N a rec3 b c d e) := fun a b c d e => by unfold ladderDrawBest_k5; exact .bindO fun ⟨_, _⟩ => .ite (k4 ..) (k4 ..)
 have k6 : ∀ a b c d e f, WGood (ladderDrawBest_k6 N a rec3 b c d e f) := fun a b c d e f => by unfold ladderDrawBest_k6; exact .ite (.bindO fun _ => k5 ..) (k5 ..)
 have k7 : ∀ a b c d e f g h, WGood (ladderDrawBest_k7 N a b rec3 c d e f g h) := fun a b c d e f g h => by unfold ladderDrawBest_k7; exact .ite (k3 _ _) (.bindO fun _ => .ite (k6 ..) (k6 ..))
 have k8 : ∀ a b c d e f g, WGood (ladderDrawBest_k8 N a b rec3 c d e f g) := fun a b c d e f g => by unfold ladderDrawBest_k8; exact .bindO fun _ => .ite (k7 ..) (k7 ..)
 have k9 : ∀ a b c d e f g h i j, WGood (ladderDrawBest_k9 N a b c rec3 d e f g h i j) := fun a b c d e f g h i j => by unfold ladderDrawBest_k9; exact .ite (k8 ..) (k8 ..)
 have k10 : ∀ a b c d e f g h i, WGood (ladderDrawBest_k10 N a b c rec3 d e f g h i) := fun a b c d e f g h i => by unfold ladderDrawBest_k10; exact .bindO fun ⟨_, _⟩ => .ite (k9 ..) (k9 ..)
 have k11 : ∀ a b c d e f g h i j, WGood (ladderDrawBest_k11 N a b c rec3 d e f g h i j) := fun a b c d e f g h i j => by unfold ladderDrawBest_k11; exact .ite (.bindO fun _ => k10 ..) (k10 ..)
 have k12 : ∀ a b c d e f g h i, WGood (ladderDrawBest_k12 N a b c rec3 d e f g h i) := fun a b c d e f g h i => by unfold ladderDrawBest_k12; exact .ite (k8 ..) (.bindO fun _ => .ite (k11 ..) (k11 ..))
 exact .next (hr2 _) fun ⟨_, _⟩ _ => .bindO fun _ => .bindO fun _ => .ite (k12 ..) (k12 ..)
theorem may_good (N : Nat) (c1 c2 c3 : Int) (c4 : List LadderResult) (c5 : List LadderPair) (m1 : List (Int × LadderResult)) (l1 : List (Ar2 Int)) : WGood (ladderDrawMayW N c1 c2 c3 c4 c5 m1 l1) := by
 unfold ladderDrawMayW
 refine WGood.bindW (best_good ..) fun m => WGood.loop (fun rec x hr => ?_) _ _
 unfold ladderDrawMayW_b3
 have k2 : ∀ a b, WGood (ladderDrawMayW_k2 N a rec b) := fun a b => by unfold ladderDrawMayW_k2; exact hr _
 refine .ite (.bindO fun _ => .bindO fun ⟨_, _⟩ => .ite (.bindO fun _ => k2 _ _) (k2 _ _)) (by unfold ladderDrawMayW_k1; exact .ret _)
theorem ift {R : Type} {c : Bool} {a b : WP R} {Q : R → Prop} (hc : c = true) (h : a Q) : (if c = true then a else b) Q := by rw [if_pos hc]; exact h
theorem ife {R : Type} {c : Bool} {a b : WP R} {Q : R → Prop} (hc : c = false) (h : b Q) : (if c = true then a else b) Q := by rw [if_neg (by rw [hc]; decide)]; exact h
def P2 : LadderPair := LadderPair.mk (LadderSide.mk 0 (-1)) (LadderSide.mk 1 (-1))
theorem may_ok : ladderDrawMay 4000 1 2 1 [] [LadderPair.mk (LadderSide.mk 0 (-1)) (LadderSide.mk 1 (-1))] [] [Ar2.mk 0 1] = some [0, 1] := by
 unfold ladderDrawMay
 refine det_eq (may_good ..) ?_
 unfold ladderDrawMayW
 refine bindW_ok ?_
 unfold ladderDrawBest
 refine loopW_ok (n := 3999) ?_
 unfold ladderDrawBest_b15
 refine ift (by kernel_rfl) ?_
 refine bindO_ok (a := P2) (by kernel_rfl) ?_
 refine bindO_ok (a := [(0, 0)]) (by kernel_rfl) ?_
 refine loopW_ok (n := 3999) ?_
 unfold ladderDrawBest_b14
 refine nextW_one ?_
 dsimp only
 refine bindO_ok (a := [(1, 0)]) (by kernel_rfl) ?_
 refine loopW_ok (n := 3999) ?_
 unfold ladderDrawBest_b13
 refine nextW_one ?_
 dsimp only
 refine bindO_ok (a := -1) (by kernel_rfl) ?_
 refine bindO_ok (a := Ar2.mk 0 1) (by kernel_rfl) ?_
 refine ife (by kernel_rfl) ?_
 unfold ladderDrawBest_k12
 refine ife (by kernel_rfl) ?_
 refine bindO_ok (a := 0) (by kernel_rfl) ?_
 refine ift (by kernel_rfl) ?_
 unfold ladderDrawBest_k11
 refine ife (by kernel_rfl) ?_
 unfold ladderDrawBest_k10
 refine bindO_ok (a := (LadderCheapest.mk 0 0, false)) (by kernel_rfl) ?_
 dsimp only
 refine ift (by kernel_rfl) ?_
 unfold ladderDrawBest_k9
 refine ift (by kernel_rfl) ?_
 unfold ladderDrawBest_k8
 refine bindO_ok (a := Ar2.mk 1 0) (by kernel_rfl) ?_
 refine ife (by kernel_rfl) ?_
 unfold ladderDrawBest_k7
 refine ife (by kernel_rfl) ?_
 refine bindO_ok (a := 0) (by kernel_rfl) ?_
 refine ift (by kernel_rfl) ?_
 unfold ladderDrawBest_k6
 refine ift (by kernel_rfl) ?_
 refine bindO_ok (a := 1) (by kernel_rfl) ?_
 unfold ladderDrawBest_k5
 refine bindO_ok (a := (LadderCheapest.mk 0 0, false)) (by kernel_rfl) ?_
 dsimp only
 refine ift (by kernel_rfl) ?_
 unfold ladderDrawBest_k4
 refine ift (by kernel_rfl) ?_
 change loopW _ 3999 _ _
 refine loopW_ok (n := 3998) ?_
 try unfold ladderDrawBest_b13
 refine nextW_nil ?_
 change loopW _ 3999 _ _
 refine loopW_ok (n := 3998) ?_
 try unfold ladderDrawBest_b14
 refine nextW_nil ?_
 change loopW _ 3999 _ _
 refine loopW_ok (n := 3998) ?_
 try unfold ladderDrawBest_b15
 refine ife (by kernel_rfl) ?_
 try unfold ladderDrawBest_k1 retW
 change loopW _ 4000 _ _
 refine loopW_ok (n := 3999) ?_
 try unfold ladderDrawMayW_b3
 refine ift (by kernel_rfl) ?_
 refine bindO_ok (a := 0) (by kernel_rfl) ?_
 refine bindO_ok (a := (LadderCheapest.mk 0 1, true)) (by kernel_rfl) ?_
 dsimp only
 refine ift (by kernel_rfl) ?_
 refine bindO_ok (a := [0]) (by kernel_rfl) ?_
 change loopW _ 3999 _ _
 refine loopW_ok (n := 3998) ?_
 try unfold ladderDrawMayW_b3
 refine ift (by kernel_rfl) ?_
 refine bindO_ok (a := 0) (by kernel_rfl) ?_
 refine bindO_ok (a := (LadderCheapest.mk 1 0, true)) (by kernel_rfl) ?_
 dsimp only
 refine ift (by kernel_rfl) ?_
 refine bindO_ok (a := [0, 1]) (by kernel_rfl) ?_
 change loopW _ 3998 _ _
 refine loopW_ok (n := 3997) ?_
 try unfold ladderDrawMayW_b3
 refine ife (by kernel_rfl) ?_
 try unfold ladderDrawMayW_k1
 rfl
theorem bind_ok {α β : Type} {x : Option α} {a : α} {f : α → Option β} {r : Option β} (e : x = some a) (h : f a = r) : Option.bind x f = r := by rw [e]; exact h
theorem ofe {β : Type} {c : Bool} {a b r : Option β} (hc : c = false) (h : b = r) : (if c = true then a else b) = r := by rw [if_neg (by rw [hc]; decide)]; exact h
theorem oft {β : Type} {c : Bool} {a b r : Option β} (hc : c = true) (h : a = r) : (if c = true then a else b) = r := by rw [if_pos hc]; exact h
def G7 : List (List UInt8) := [[98, 111, 119, 108, 101, 114, 32, 55, 48], [98, 111, 119, 108, 101, 114, 32, 54, 48], [111, 112, 101, 110, 32, 49, 32, 48], [98, 97, 108, 108, 32, 49, 32, 49, 48], [98, 97, 108, 108, 32, 49, 32, 55], [98, 97, 108, 108, 32, 49, 32, 51], [98, 97, 108, 108, 32, 49, 32, 52]]
def G8 : List (List UInt8) := G7 ++ [[98, 97, 108, 108, 32, 49, 32, 53]]
def G12 : List (List UInt8) := G8 ++ [[98, 97, 108, 108, 32, 49, 32, 50], [111, 112, 101, 110, 32, 49, 32, 49], [99, 108, 111, 115, 101, 32, 49], [99, 108, 111, 115, 101, 32, 49]]
def W7 : DeskWork := DeskWork.mk (DeskState.mk [70, 60] [(DeskLane.mk (-1) []), (DeskLane.mk 0 [10, 7, 3, 4]), (DeskLane.mk (-1) []), (DeskLane.mk (-1) [])] [[], []] [] [] [])
def R7 : List UInt8 := [108, 97, 110, 101, 32, 49, 32, 98, 111, 119, 108, 101, 114, 32, 48, 32, 99, 111, 117, 110, 116, 115, 32, 50, 48, 32, 51, 52, 10, 98, 111, 119, 108, 101, 114, 32, 48, 32, 107, 101, 112, 116, 32, 48, 32, 115, 104, 101, 101, 116, 115, 32, 48, 10, 98, 111, 119, 108, 101, 114, 32, 49, 32, 107, 101, 112, 116, 32, 48, 32, 115, 104, 101, 101, 116, 115, 32, 48, 10, 100, 117, 101, 108, 115, 32, 48, 32, 49, 10]
theorem mayWin_ok : ladderMayWin 4000 (LadderCup.mk 1 2 1 []) = some ([0, 1], 0) := by
 unfold ladderMayWin
 refine bind_ok (a := (0, 1, 2, 1, [], [LadderPair.mk (LadderSide.mk 0 (-1)) (LadderSide.mk 1 (-1))], [], [Ar2.mk 0 1])) (by kernel_rfl) ?_
 dsimp only
 refine ofe (by kernel_rfl) ?_
 exact bind_ok may_ok rfl
theorem report_ok : deskReport 4000 G7 = some (R7, 0) := by
 unfold deskReport
 refine bind_ok (a := 0) (by kernel_rfl) ?_
 refine ofe (by kernel_rfl) ?_
 refine bind_ok (a := ([0, 0, 0, 0, 0, 0, 0], W7)) (by kernel_rfl) ?_
 dsimp only
 refine bind_ok (a := [108, 97, 110, 101, 32, 49, 32, 98, 111, 119, 108, 101, 114, 32, 48, 32, 99, 111, 117, 110, 116, 115, 32, 50, 48, 32, 51, 52, 10]) (by kernel_rfl) ?_
 refine bind_ok (a := RateBook.mk (RateLaw.mk 90 80 40 3 5) [70, 60] [] []) (by kernel_rfl) ?_
 refine bind_ok counting_ok ?_
 dsimp only
 refine bind_ok (a := [108, 97, 110, 101, 32, 49, 32, 98, 111, 119, 108, 101, 114, 32, 48, 32, 99, 111, 117, 110, 116, 115, 32, 50, 48, 32, 51, 52, 10, 98, 111, 119, 108, 101, 114, 32, 48, 32, 107, 101, 112, 116, 32, 48, 32, 115, 104, 101, 101, 116, 115, 32, 48, 10, 98, 111, 119, 108, 101, 114, 32, 49, 32, 107, 101, 112, 116, 32, 48, 32, 115, 104, 101, 101, 116, 115, 32, 48, 10]) (by kernel_rfl) ?_
 refine bind_ok (a := R7) ?_ (by kernel_rfl)
 refine oft (by kernel_rfl) ?_
 refine bind_ok (a := LadderCup.mk 1 2 1 []) (by kernel_rfl) ?_
 refine bind_ok mayWin_ok ?_
 kernel_rfl
theorem wakes_ok : law12Wakes 4000 = some true := by
 unfold law12Wakes
 refine bind_ok (a := G8) (by kernel_rfl) ?_
 refine bind_ok (a := G12) (by kernel_rfl) ?_
 refine bind_ok (a := (DeskState.mk [70, 60] [(DeskLane.mk (-1) []), (DeskLane.mk (-1) []), (DeskLane.mk (-1) []), (DeskLane.mk (-1) [])] [[43], []] [] [] [], [0, 0, 0, 0, 0, 0, 0, 0, 10, 6, 0, 8], 0)) (by kernel_rfl) ?_
 dsimp only
 refine bind_ok (a := G8) (by kernel_rfl) ?_
 refine bind_ok (a := G7) (by kernel_rfl) ?_
 refine bind_ok (a := ([20, 34], 38, 54, 0)) (by kernel_rfl) ?_
 dsimp only
 refine bind_ok (a := G8) (by kernel_rfl) ?_
 refine bind_ok (a := (70, 16, 0)) (by kernel_rfl) ?_
 dsimp only
 refine bind_ok (a := G8) (by kernel_rfl) ?_
 refine bind_ok (a := G7) (by kernel_rfl) ?_
 refine bind_ok report_ok ?_
 dsimp only
 refine bind_ok (a := ([60, 48, 48, 49, 124, 48, 48, 50, 48, 57, 62, 97, 10], 0)) (by kernel_rfl) ?_
 kernel_rfl
end Go.Proofs.YtiaoloodgildeaaGreatDoor
