/-
  Walks: what the typed functions compute, the program’s functions return.
-/
import Derived.Test.YtbceakhnnnfiaaaWe
namespace Go.Proofs.Ytbceakhnnnfiaaa
open Go Go.Abs Go.Kp
set_option maxRecDepth 100000
set_option maxHeartbeats 8000000
set_option linter.all false

theorem law09HasC {N : Nat} (hN : N ≤ 1073741824) {l1 : List Int} {n1 : Int} {r : Bool} (h : law09Has N l1 n1 = some r) :
    ACalls Try.prog 31 [.d (.list 1 (List.map I l1)), .d (I n1)] [] fun e os => e = .ret (.d (.bool r)) ∧ os = [] := by
  refine acalls_f (fresh := false) tt_ok dr_ok ⟨[], [], [], [], [1001], 0, []⟩ Try.func31 rfl Try.call31 rfl ?_
  unfold law09Has at h
  (conv=>whnf);refine SeqG.mk Unit (fun y => []) (fun y => []) (fun y => law09Has_k1 N = some r) ?_ ?_
  ·(conv=>whnf);refine LoopG.mk (Nat × Int) (fun y => [(0, .d (.list 1 (List.map I l1))), (1, .d (I n1)), (5, .d (I y.2))]) (fun y => []) (fun y => loopN (fun rr x => law09Has_b2 N l1 n1 rr x) y.1 y.2 = some r) (fun y => y.1) (N, 0) h (Sub.eq rfl ?_ ?_) ?_
   ·(repeat ((conv=>whnf);refine nr ?_));exact trivial
   ·exact trivial
   ·rintro ⟨n3, i8⟩ hl2;obtain ⟨n3, rfl, hl2⟩ := loopN_some hl2;replace hl2 : law09Has_b2 N l1 n1 (loopN (fun rr x => law09Has_b2 N l1 n1 rr x) n3) i8 = some r := hl2;rw [law09Has_b2] at hl2;(conv=>whnf);refine LnA.mk _ (List.length_map _) ?_;(conv=>whnf);refine Br.mk (fun hc22 => ?_) (fun hc22 => ?_)
    ·replace hl2 := ite_t hc22 hl2;obtain ⟨x24, hx24, hl2⟩ := obind hl2;(conv=>whnf);refine Side.mk rfl ⟨_, idx_0 hx24, idx_map _ hx24, ?_⟩;(conv=>whnf);refine Br.mk (fun hc24 => ?_) (fun hc24 => ?_)
     ·replace hl2 := ite_t hc24 hl2;(conv=>whnf);cases hl2;exact rfl
     ·replace hl2 := ite_f hc24 hl2;(conv=>whnf);refine ⟨(n3, w64 (i8 + 1)), hl2, Sub.eq rfl ?_ ?_, Nat.lt_succ_self _⟩
      ·(repeat ((conv=>whnf);refine nr ?_));exact trivial
      ·exact trivial
    ·replace hl2 := ite_f hc22 hl2;(conv=>whnf);refine ⟨(), hl2, Sub.eq rfl ?_ ?_⟩
     ·(repeat ((conv=>whnf);refine nr ?_));exact trivial
     ·exact trivial
  ·clear h;rintro _ h;unfold law09Has_k1 at h;(conv=>whnf);cases h;exact rfl
end Go.Proofs.Ytbceakhnnnfiaaa
