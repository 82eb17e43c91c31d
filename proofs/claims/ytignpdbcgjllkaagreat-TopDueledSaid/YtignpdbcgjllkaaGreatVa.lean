/-
  Walks: what the typed functions compute, the program’s functions return.
-/
import Derived.Test.YtignpdbcgjllkaaGreatWe
namespace Go.Proofs.YtignpdbcgjllkaaGreat
open Go Go.Abs Go.Kp
set_option maxRecDepth 100000
set_option maxHeartbeats 8000000
set_option linter.all false
theorem law07ThinC {N : Nat} (hN : N ≤ 1073741824) {b1 : Ref07Book} {r : Bool} (h : law07Thin N b1 = some r) :
    ACalls Tryz.prog 5 [.d (.agg [I b1.fLaw.fBase, I b1.fLaw.fPercent, I b1.fLaw.fCap, I b1.fLaw.fLeast, I b1.fLaw.fBlind, .list 1 (List.map I b1.fBowlers), .list 6 (List.map Ref07Sheet.enc b1.fSheets), .list 1 (List.map I b1.fWithdrawn)])] [] fun e os => e = .ret (.d (.bool r)) ∧ os = [] := by
  refine acalls_f (fresh := false) tt_ok dr_ok ⟨[1], [], [], [], [1], 0, []⟩ Tryz.func5 rfl Tryz.call5 rfl ?_
  unfold law07Thin at h
  obtain ⟨v1, hx1, h⟩ := obind h;(conv=>whnf);refine SeqG.mk Unit (fun y => [(2, .d (.bool v1))]) (fun y => []) (fun _ => True) ?_ ?_
  ·(conv=>whnf);refine LnA.mk _ (List.length_map _) ?_;(conv=>whnf);refine Br.mk (fun hc3 => ?_) (fun hc3 => ?_)
   ·replace hx1 := ite_t hc3 hx1;(conv=>whnf);refine LnA.mk _ (List.length_map _) ?_;(conv=>whnf);refine Br.mk (fun hc4 => ?_) (fun hc4 => ?_)
    ·replace hx1 := ite_t hc4 hx1;(conv=>whnf);refine LnA.mk _ (List.length_map _) ?_;cases hx1;(conv=>whnf);refine ⟨(), trivial, Sub.eq rfl ?_ ?_⟩
     ·(repeat ((conv=>whnf);refine nr ?_));exact trivial
     ·exact trivial
    ·replace hx1 := ite_f hc4 hx1;cases hx1;(conv=>whnf);refine ⟨(), trivial, Sub.eq rfl ?_ ?_⟩
     ·(repeat ((conv=>whnf);refine nr ?_));exact trivial
     ·exact trivial
   ·replace hx1 := ite_f hc3 hx1;cases hx1;(conv=>whnf);refine ⟨(), trivial, Sub.eq rfl ?_ ?_⟩
    ·(repeat ((conv=>whnf);refine nr ?_));exact trivial
    ·exact trivial
  ·rintro _ _;(conv=>whnf);cases h;exact rfl
theorem ref07InC {N : Nat} (hN : N ≤ 1073741824) {n1 : Int} {low1 : Int} {high1 : Int} {r : Bool} (h : ref07In N n1 low1 high1 = some r) :
    ACalls Tryz.prog 23 [.d (I n1), .d (I low1), .d (I high1)] [] fun e os => e = .ret (.d (.bool r)) ∧ os = [] := by
  refine acalls_f (fresh := false) tt_ok dr_ok ⟨[], [], [], [], [1], 0, []⟩ Tryz.func23 rfl Tryz.call23 rfl ?_
  unfold ref07In at h
  obtain ⟨v1, hx1, h⟩ := obind h;(conv=>whnf);refine SeqG.mk Unit (fun y => [(6, .d (.bool v1))]) (fun y => []) (fun _ => True) ?_ ?_
  ·(conv=>whnf);refine Br.mk (fun hc2 => ?_) (fun hc2 => ?_)
   ·replace hx1 := ite_t hc2 hx1;cases hx1;(conv=>whnf);refine ⟨(), trivial, Sub.eq rfl ?_ ?_⟩
    ·(repeat ((conv=>whnf);refine nr ?_));exact trivial
    ·exact trivial
   ·replace hx1 := ite_f hc2 hx1;cases hx1;(conv=>whnf);refine ⟨(), trivial, Sub.eq rfl ?_ ?_⟩
    ·(repeat ((conv=>whnf);refine nr ?_));exact trivial
    ·exact trivial
  ·rintro _ _;(conv=>whnf);cases h;exact rfl
theorem ref07IsLawC {N : Nat} (hN : N ≤ 1073741824) {l1 : Ref07Law} {r : Bool} (h : ref07IsLaw N l1 = some r) :
    ACalls Tryz.prog 21 [.d (.agg [I l1.fBase, I l1.fPercent, I l1.fCap, I l1.fLeast, I l1.fBlind])] [] fun e os => e = .ret (.d (.bool r)) ∧ os = [] := by
  refine acalls_f (fresh := false) tt_ok dr_ok ⟨[1], [], [], [], [1], 0, []⟩ Tryz.func21 rfl Tryz.call21 rfl ?_
  unfold ref07IsLaw at h
  obtain ⟨v1, hx6, h⟩ := obind h;(conv=>whnf);refine SeqG.mk Unit (fun y => [(2, .d (.bool v1))]) (fun y => []) (fun _ => True) ?_ ?_
  ·obtain ⟨r6, hx7, hx6⟩ := obind hx6;(conv=>whnf);refine CallG.pure _ (ref07InC hN hx7) ?_;(conv=>whnf);refine Br.mk (fun hc5 => ?_) (fun hc5 => ?_)
   ·replace hx6 := ite_t hc5 hx6;obtain ⟨r7, hx8, hx6⟩ := obind hx6;(conv=>whnf);refine CallG.pure _ (ref07InC hN hx8) ?_;(conv=>whnf);refine Br.mk (fun hc6 => ?_) (fun hc6 => ?_)
    ·replace hx6 := ite_t hc6 hx6;obtain ⟨r8, hx9, hx6⟩ := obind hx6;(conv=>whnf);refine CallG.pure _ (ref07InC hN hx9) ?_;(conv=>whnf);refine Br.mk (fun hc7 => ?_) (fun hc7 => ?_)
     ·replace hx6 := ite_t hc7 hx6;obtain ⟨r9, hx10, hx6⟩ := obind hx6;(conv=>whnf);refine CallG.pure _ (ref07InC hN hx10) ?_;(conv=>whnf);refine Br.mk (fun hc8 => ?_) (fun hc8 => ?_)
      ·replace hx6 := ite_t hc8 hx6;obtain ⟨r10, hx11, hx6⟩ := obind hx6;(conv=>whnf);refine CallG.pure _ (ref07InC hN hx11) ?_;cases hx6;(conv=>whnf);refine ⟨(), trivial, Sub.eq rfl ?_ ?_⟩
       ·(repeat ((conv=>whnf);refine nr ?_));exact trivial
       ·exact trivial
      ·replace hx6 := ite_f hc8 hx6;cases hx6;(conv=>whnf);refine ⟨(), trivial, Sub.eq rfl ?_ ?_⟩
       ·(repeat ((conv=>whnf);refine nr ?_));exact trivial
       ·exact trivial
     ·replace hx6 := ite_f hc7 hx6;cases hx6;(conv=>whnf);refine ⟨(), trivial, Sub.eq rfl ?_ ?_⟩
      ·(repeat ((conv=>whnf);refine nr ?_));exact trivial
      ·exact trivial
    ·replace hx6 := ite_f hc6 hx6;cases hx6;(conv=>whnf);refine ⟨(), trivial, Sub.eq rfl ?_ ?_⟩
     ·(repeat ((conv=>whnf);refine nr ?_));exact trivial
     ·exact trivial
   ·replace hx6 := ite_f hc5 hx6;cases hx6;(conv=>whnf);refine ⟨(), trivial, Sub.eq rfl ?_ ?_⟩
    ·(repeat ((conv=>whnf);refine nr ?_));exact trivial
    ·exact trivial
  ·rintro _ _;(conv=>whnf);cases h;exact rfl
theorem ref07RisingC {N : Nat} (hN : N ≤ 1073741824) {l1 : List Int} {r : Bool} (h : ref07Rising N l1 = some r) :
    ACalls Tryz.prog 22 [.d (.list 1 (List.map I l1))] [] fun e os => e = .ret (.d (.bool r)) ∧ os = [] := by
  refine acalls_f (fresh := false) tt_ok dr_ok ⟨[], [], [], [], [1001], 0, []⟩ Tryz.func22 rfl Tryz.call22 rfl ?_
  unfold ref07Rising at h
  (conv=>whnf);refine SeqG.mk Unit (fun y => []) (fun y => []) (fun y => ref07Rising_k1 N = some r) ?_ ?_
  ·(conv=>whnf);refine LoopG.mk (Nat × Int) (fun y => [(0, .d (.list 1 (List.map I l1))), (3, .d (I y.2))]) (fun y => []) (fun y => loopN (fun rr x => ref07Rising_b2 N l1 rr x) y.1 y.2 = some r) (fun y => y.1) (N, 1) h (Sub.eq rfl ?_ ?_) ?_
   ·(repeat ((conv=>whnf);refine nr ?_));exact trivial
   ·exact trivial
   ·rintro ⟨n2, i8⟩ hl2;obtain ⟨n2, rfl, hl2⟩ := loopN_some hl2;replace hl2 : ref07Rising_b2 N l1 (loopN (fun rr x => ref07Rising_b2 N l1 rr x) n2) i8 = some r := hl2;rw [ref07Rising_b2] at hl2;(conv=>whnf);refine LnA.mk _ (List.length_map _) ?_;(conv=>whnf);refine Br.mk (fun hc22 => ?_) (fun hc22 => ?_)
    ·replace hl2 := ite_t hc22 hl2;obtain ⟨x47, hx47, hl2⟩ := obind hl2;obtain ⟨x48, hx48, hl2⟩ := obind hl2;(conv=>whnf);refine DrawG.mk (.take 0 (.take 1 (.take 2 (.take 3 (.take 4 (.take 5 (.take 6 (.take 7 (.take 8 (.take 9 .done)))))))))) (by kernel_rfl) ?_;(conv=>whnf);refine Side.mk rfl ⟨_, idx_0 hx47, idx_map _ hx47, ?_⟩;(conv=>whnf);refine Side.mk rfl ⟨_, idx_0 hx48, idx_map _ hx48, ?_⟩;(conv=>whnf);refine Br.mk (fun hc24 => ?_) (fun hc24 => ?_)
     ·replace hl2 := ite_t hc24 hl2;(conv=>whnf);cases hl2;exact rfl
     ·replace hl2 := ite_f hc24 hl2;(conv=>whnf);refine ⟨(n2, w64 (i8 + 1)), hl2, Sub.eq rfl ?_ ?_, Nat.lt_succ_self _⟩
      ·(repeat ((conv=>whnf);refine nr ?_));exact trivial
      ·exact trivial
    ·replace hl2 := ite_f hc22 hl2;(conv=>whnf);refine ⟨(), hl2, Sub.eq rfl ?_ ?_⟩
     ·(repeat ((conv=>whnf);refine nr ?_));exact trivial
     ·exact trivial
  ·clear h;rintro _ h;unfold ref07Rising_k1 at h;(conv=>whnf);cases h;exact rfl
theorem ref07FaultC {N : Nat} (hN : N ≤ 1073741824) {b1 : Ref07Book} {r : Int} (h : ref07Fault N b1 = some r) :
    ACalls Tryz.prog 6 [.d (.agg [I b1.fLaw.fBase, I b1.fLaw.fPercent, I b1.fLaw.fCap, I b1.fLaw.fLeast, I b1.fLaw.fBlind, .list 1 (List.map I b1.fBowlers), .list 6 (List.map Ref07Sheet.enc b1.fSheets), .list 1 (List.map I b1.fWithdrawn)])] [] fun e os => e = .ret (.d (I r)) ∧ os = [] := by
  refine acalls_f (fresh := false) tt_ok dr_ok ⟨[1], [], [], [], [1, 3, 19, 32, 1005, 1010, 1015, 1026, 1029], 0, []⟩ Tryz.func6 rfl Tryz.call6 rfl ?_
  unfold ref07Fault at h
  obtain ⟨v2, hx2, h⟩ := obind h;(conv=>whnf);refine SeqG.mk Unit (fun y => [(1, .d (.ref (.agg [I b1.fLaw.fBase, I b1.fLaw.fPercent, I b1.fLaw.fCap, I b1.fLaw.fLeast, I b1.fLaw.fBlind, .list 1 (List.map I b1.fBowlers), .list 6 (List.map Ref07Sheet.enc b1.fSheets), .list 1 (List.map I b1.fWithdrawn)]))), (25, .d (.bool v2))]) (fun y => []) (fun _ => True) ?_ ?_
  ·(conv=>whnf);refine LnA.mk _ (List.length_map _) ?_;(conv=>whnf);refine Br.mk (fun hc8 => ?_) (fun hc8 => ?_)
   ·replace hx2 := ite_f hc8 hx2;(conv=>whnf);refine LnA.mk _ (List.length_map _) ?_;(conv=>whnf);refine Br.mk (fun hc9 => ?_) (fun hc9 => ?_)
    ·replace hx2 := ite_f hc9 hx2;(conv=>whnf);refine LnA.mk _ (List.length_map _) ?_;cases hx2;(conv=>whnf);refine ⟨(), trivial, Sub.eq rfl ?_ ?_⟩
     ·(repeat ((conv=>whnf);refine nr ?_));exact trivial
     ·exact trivial
    ·replace hx2 := ite_t hc9 hx2;cases hx2;(conv=>whnf);refine ⟨(), trivial, Sub.eq rfl ?_ ?_⟩
     ·(repeat ((conv=>whnf);refine nr ?_));exact trivial
     ·exact trivial
   ·replace hx2 := ite_t hc8 hx2;cases hx2;(conv=>whnf);refine ⟨(), trivial, Sub.eq rfl ?_ ?_⟩
    ·(repeat ((conv=>whnf);refine nr ?_));exact trivial
    ·exact trivial
  ·rintro _ _;(conv=>whnf);refine Br.mk (fun hc10 => ?_) (fun hc10 => ?_)
   ·replace h := ite_t hc10 h;(conv=>whnf);cases h;exact rfl
   ·replace h := ite_f hc10 h;obtain ⟨v4, hx10, h⟩ := obind h;(conv=>whnf);refine SeqG.mk Unit (fun y => [(1, .d (.ref (.agg [I b1.fLaw.fBase, I b1.fLaw.fPercent, I b1.fLaw.fCap, I b1.fLaw.fLeast, I b1.fLaw.fBlind, .list 1 (List.map I b1.fBowlers), .list 6 (List.map Ref07Sheet.enc b1.fSheets), .list 1 (List.map I b1.fWithdrawn)]))), (35, .d (.bool v4))]) (fun y => []) (fun _ => True) ?_ ?_
    ·obtain ⟨r7, hx11, hx10⟩ := obind hx10;(conv=>whnf);refine CallG.pure _ (ref07IsLawC hN hx11) ?_;(conv=>whnf);refine Br.mk (fun hc15 => ?_) (fun hc15 => ?_)
     ·replace hx10 := ite_f hc15 hx10;obtain ⟨r8, hx12, hx10⟩ := obind hx10;(conv=>whnf);refine CallG.pure _ (ref07RisingC hN hx12) ?_;cases hx10;(conv=>whnf);refine ⟨(), trivial, Sub.eq rfl ?_ ?_⟩
      ·(repeat ((conv=>whnf);refine nr ?_));exact trivial
      ·exact trivial
     ·replace hx10 := ite_t hc15 hx10;cases hx10;(conv=>whnf);refine ⟨(), trivial, Sub.eq rfl ?_ ?_⟩
      ·(repeat ((conv=>whnf);refine nr ?_));exact trivial
      ·exact trivial
    ·rintro _ _;(conv=>whnf);refine Br.mk (fun hc16 => ?_) (fun hc16 => ?_)
     ·replace h := ite_t hc16 h;(conv=>whnf);cases h;exact rfl
     ·replace h := ite_f hc16 h;(conv=>whnf);refine SeqG.mk Unit (fun y => [(1, .d (.ref (.agg [I b1.fLaw.fBase, I b1.fLaw.fPercent, I b1.fLaw.fCap, I b1.fLaw.fLeast, I b1.fLaw.fBlind, .list 1 (List.map I b1.fBowlers), .list 6 (List.map Ref07Sheet.enc b1.fSheets), .list 1 (List.map I b1.fWithdrawn)])))]) (fun y => []) (fun y => ref07Fault_k9 N b1 = some r) ?_ ?_
      ·(conv=>whnf);refine LoopG.mk (Nat × Int) (fun y => [(1, .d (.ref (.agg [I b1.fLaw.fBase, I b1.fLaw.fPercent, I b1.fLaw.fCap, I b1.fLaw.fLeast, I b1.fLaw.fBlind, .list 1 (List.map I b1.fBowlers), .list 6 (List.map Ref07Sheet.enc b1.fSheets), .list 1 (List.map I b1.fWithdrawn)]))), (3, .d (I y.2))]) (fun y => []) (fun y => loopN (fun rr x => ref07Fault_b10 N b1 rr x) y.1 y.2 = some r) (fun y => y.1) (N, 0) h (Sub.eq rfl ?_ ?_) ?_
       ·(repeat ((conv=>whnf);refine nr ?_));exact trivial
       ·exact trivial
       ·rintro ⟨n16, i32⟩ hl16;obtain ⟨n16, rfl, hl16⟩ := loopN_some hl16;replace hl16 : ref07Fault_b10 N b1 (loopN (fun rr x => ref07Fault_b10 N b1 rr x) n16) i32 = some r := hl16;rw [ref07Fault_b10] at hl16;(conv=>whnf);refine LnA.mk _ (List.length_map _) ?_;(conv=>whnf);refine Br.mk (fun hc470 => ?_) (fun hc470 => ?_)
        ·replace hl16 := ite_t hc470 hl16;obtain ⟨x264, hx685, hl16⟩ := obind hl16;(conv=>whnf);refine Side.mk rfl ⟨_, idx_0 hx685, idx_map _ hx685, ?_⟩;obtain ⟨r344, hx686, hl16⟩ := obind hl16;(conv=>whnf);refine CallG.pure _ (ref07InC hN hx686) ?_;(conv=>whnf);refine Br.mk (fun hc472 => ?_) (fun hc472 => ?_)
         ·replace hl16 := ite_t hc472 hl16;(conv=>whnf);cases hl16;exact rfl
         ·replace hl16 := ite_f hc472 hl16;(conv=>whnf);refine ⟨(n16, w64 (i32 + 1)), hl16, Sub.eq rfl ?_ ?_, Nat.lt_succ_self _⟩
          ·(repeat ((conv=>whnf);refine nr ?_));exact trivial
          ·exact trivial
        ·replace hl16 := ite_f hc470 hl16;(conv=>whnf);refine ⟨(), hl16, Sub.eq rfl ?_ ?_⟩
         ·(repeat ((conv=>whnf);refine nr ?_));exact trivial
         ·exact trivial
      ·clear h;rintro _ h;unfold ref07Fault_k9 at h;(conv=>whnf);refine SeqG.mk Unit (fun y => [(1, .d (.ref (.agg [I b1.fLaw.fBase, I b1.fLaw.fPercent, I b1.fLaw.fCap, I b1.fLaw.fLeast, I b1.fLaw.fBlind, .list 1 (List.map I b1.fBowlers), .list 6 (List.map Ref07Sheet.enc b1.fSheets), .list 1 (List.map I b1.fWithdrawn)])))]) (fun y => []) (fun y => ref07Fault_k7 N b1 = some r) ?_ ?_
       ·(conv=>whnf);refine LoopG.mk (Nat × Int) (fun y => [(1, .d (.ref (.agg [I b1.fLaw.fBase, I b1.fLaw.fPercent, I b1.fLaw.fCap, I b1.fLaw.fLeast, I b1.fLaw.fBlind, .list 1 (List.map I b1.fBowlers), .list 6 (List.map Ref07Sheet.enc b1.fSheets), .list 1 (List.map I b1.fWithdrawn)]))), (4, .d (I y.2))]) (fun y => []) (fun y => loopN (fun rr x => ref07Fault_b8 N b1 rr x) y.1 y.2 = some r) (fun y => y.1) (N, 0) h (Sub.eq rfl ?_ ?_) ?_
        ·(repeat ((conv=>whnf);refine nr ?_));exact trivial
        ·exact trivial
        ·rintro ⟨n15, i28⟩ hl15;obtain ⟨n15, rfl, hl15⟩ := loopN_some hl15;replace hl15 : ref07Fault_b8 N b1 (loopN (fun rr x => ref07Fault_b8 N b1 rr x) n15) i28 = some r := hl15;rw [ref07Fault_b8] at hl15;(conv=>whnf);refine LnA.mk _ (List.length_map _) ?_;(conv=>whnf);refine Br.mk (fun hc458 => ?_) (fun hc458 => ?_)
         ·replace hl15 := ite_t hc458 hl15;obtain ⟨x252, hx661, hl15⟩ := obind hl15;(conv=>whnf);refine Side.mk rfl ⟨_, idx_0 hx661, idx_map _ hx661, ?_⟩;obtain ⟨r332, hx662, hl15⟩ := obind hl15;(conv=>whnf);refine CallG.pure _ (ref07InC hN hx662) ?_;(conv=>whnf);refine Br.mk (fun hc460 => ?_) (fun hc460 => ?_)
          ·replace hl15 := ite_t hc460 hl15;(conv=>whnf);cases hl15;exact rfl
          ·replace hl15 := ite_f hc460 hl15;(conv=>whnf);refine ⟨(n15, w64 (i28 + 1)), hl15, Sub.eq rfl ?_ ?_, Nat.lt_succ_self _⟩
           ·(repeat ((conv=>whnf);refine nr ?_));exact trivial
           ·exact trivial
         ·replace hl15 := ite_f hc458 hl15;(conv=>whnf);refine ⟨(), hl15, Sub.eq rfl ?_ ?_⟩
          ·(repeat ((conv=>whnf);refine nr ?_));exact trivial
          ·exact trivial
       ·clear h;rintro _ h;unfold ref07Fault_k7 at h;(conv=>whnf);refine SeqG.mk Unit (fun y => [(1, .d (.ref (.agg [I b1.fLaw.fBase, I b1.fLaw.fPercent, I b1.fLaw.fCap, I b1.fLaw.fLeast, I b1.fLaw.fBlind, .list 1 (List.map I b1.fBowlers), .list 6 (List.map Ref07Sheet.enc b1.fSheets), .list 1 (List.map I b1.fWithdrawn)])))]) (fun y => []) (fun y => ref07Fault_k5 N b1 = some r) ?_ ?_
        ·(conv=>whnf);refine LoopG.mk (Nat × Int) (fun y => [(1, .d (.ref (.agg [I b1.fLaw.fBase, I b1.fLaw.fPercent, I b1.fLaw.fCap, I b1.fLaw.fLeast, I b1.fLaw.fBlind, .list 1 (List.map I b1.fBowlers), .list 6 (List.map Ref07Sheet.enc b1.fSheets), .list 1 (List.map I b1.fWithdrawn)]))), (5, .d (I y.2))]) (fun y => []) (fun y => loopN (fun rr x => ref07Fault_b6 N b1 rr x) y.1 y.2 = some r) (fun y => y.1) (N, 0) h (Sub.eq rfl ?_ ?_) ?_
         ·(repeat ((conv=>whnf);refine nr ?_));exact trivial
         ·exact trivial
         ·rintro ⟨n14, i24⟩ hl14;obtain ⟨n14, rfl, hl14⟩ := loopN_some hl14;replace hl14 : ref07Fault_b6 N b1 (loopN (fun rr x => ref07Fault_b6 N b1 rr x) n14) i24 = some r := hl14;rw [ref07Fault_b6] at hl14;(conv=>whnf);refine LnA.mk _ (List.length_map _) ?_;(conv=>whnf);refine Br.mk (fun hc416 => ?_) (fun hc416 => ?_)
          ·replace hl14 := ite_t hc416 hl14;obtain ⟨x240, hx612, hl14⟩ := obind hl14;(conv=>whnf);refine Side.mk rfl ⟨_, idx_0 hx612, idx_map _ hx612, ?_⟩;(conv=>whnf);intro b25;(conv=>whnf);refine sr ?_;obtain ⟨v76, hx623, hl14⟩ := obind hl14;(conv=>whnf);refine SeqG.mk Unit (fun y => [(1, .d (.ref (.agg [I b1.fLaw.fBase, I b1.fLaw.fPercent, I b1.fLaw.fCap, I b1.fLaw.fLeast, I b1.fLaw.fBlind, .list 1 (List.map I b1.fBowlers), .list 6 (List.map Ref07Sheet.enc b1.fSheets), .list 1 (List.map I b1.fWithdrawn)]))), (5, .d (I i24)), (6, .ptr 6 b25 0), (95, .d (.bool v76))]) (fun y => [(6, .cells b25 [.d (I x240.fNumber), .d (I x240.fBowler), .d (I x240.fWeek), .d (I x240.fGames.a0), .d (I x240.fGames.a1), .d (I x240.fGames.a2)])]) (fun _ => True) ?_ ?_
           ·(conv=>whnf);refine sr ?_;obtain ⟨r306, hx624, hx623⟩ := obind hx623;(conv=>whnf);refine CallG.pure _ (ref07InC hN hx624) ?_;(conv=>whnf);refine Br.mk (fun hc440 => ?_) (fun hc440 => ?_)
            ·replace hx623 := ite_f hc440 hx623;(conv=>whnf);refine sr ?_;(conv=>whnf);refine LnA.mk _ (List.length_map _) ?_;obtain ⟨r307, hx625, hx623⟩ := obind hx623;(conv=>whnf);refine CallG.pure _ (ref07InC hN hx625) ?_;(conv=>whnf);refine Br.mk (fun hc441 => ?_) (fun hc441 => ?_)
             ·replace hx623 := ite_f hc441 hx623;(conv=>whnf);refine sr ?_;obtain ⟨r308, hx626, hx623⟩ := obind hx623;(conv=>whnf);refine CallG.pure _ (ref07InC hN hx626) ?_;cases hx623;(conv=>whnf);refine ⟨(), trivial, Sub.eq rfl ?_ ?_⟩
              ·(repeat ((conv=>whnf);refine nr ?_));exact trivial
              ·(conv=>whnf);refine no ?_;exact trivial
             ·replace hx623 := ite_t hc441 hx623;cases hx623;(conv=>whnf);refine ⟨(), trivial, Sub.eq rfl ?_ ?_⟩
              ·(repeat ((conv=>whnf);refine nr ?_));exact trivial
              ·(conv=>whnf);refine no ?_;exact trivial
            ·replace hx623 := ite_t hc440 hx623;cases hx623;(conv=>whnf);refine ⟨(), trivial, Sub.eq rfl ?_ ?_⟩
             ·(repeat ((conv=>whnf);refine nr ?_));exact trivial
             ·(conv=>whnf);refine no ?_;exact trivial
           ·rintro _ _;(conv=>whnf);refine Br.mk (fun hc442 => ?_) (fun hc442 => ?_)
            ·replace hl14 := ite_t hc442 hl14;(conv=>whnf);cases hl14;exact rfl
            ·replace hl14 := ite_f hc442 hl14;(conv=>whnf);refine LoopG.unr 4 ?_;(conv=>whnf);refine IxG.mk 0 rfl (by decide) ?_;(conv=>whnf);refine sr ?_;obtain ⟨r312, hx630, hl14⟩ := obind hl14;(conv=>whnf);refine CallG.pure _ (ref07InC hN hx630) ?_;(conv=>whnf);refine Br.mk (fun hc444 => ?_) (fun hc444 => ?_)
             ·replace hl14 := ite_t hc444 hl14;(conv=>whnf);cases hl14;exact rfl
             ·replace hl14 := ite_f hc444 hl14;(conv=>whnf);refine IxG.mk 1 rfl (by decide) ?_;(conv=>whnf);refine sr ?_;obtain ⟨r316, hx634, hl14⟩ := obind hl14;(conv=>whnf);refine CallG.pure _ (ref07InC hN hx634) ?_;(conv=>whnf);refine Br.mk (fun hc446 => ?_) (fun hc446 => ?_)
              ·replace hl14 := ite_t hc446 hl14;(conv=>whnf);cases hl14;exact rfl
              ·replace hl14 := ite_f hc446 hl14;(conv=>whnf);refine IxG.mk 2 rfl (by decide) ?_;(conv=>whnf);refine sr ?_;obtain ⟨r320, hx638, hl14⟩ := obind hl14;(conv=>whnf);refine CallG.pure _ (ref07InC hN hx638) ?_;(conv=>whnf);refine Br.mk (fun hc448 => ?_) (fun hc448 => ?_)
               ·replace hl14 := ite_t hc448 hl14;(conv=>whnf);cases hl14;exact rfl
               ·replace hl14 := ite_f hc448 hl14;(conv=>whnf);refine ⟨(n14, w64 (i24 + 1)), hl14, Sub.eq rfl ?_ ?_, Nat.lt_succ_self _⟩
                ·(repeat ((conv=>whnf);refine nr ?_));exact trivial
                ·exact trivial
          ·replace hl14 := ite_f hc416 hl14;(conv=>whnf);refine ⟨(), hl14, Sub.eq rfl ?_ ?_⟩
           ·(repeat ((conv=>whnf);refine nr ?_));exact trivial
           ·exact trivial
        ·clear h;rintro _ h;unfold ref07Fault_k5 at h;(conv=>whnf);refine SeqG.mk Unit (fun y => []) (fun y => []) (fun y => ref07Fault_k1 N = some r) ?_ ?_
         ·(conv=>whnf);refine LoopG.mk (Nat × Int) (fun y => [(1, .d (.ref (.agg [I b1.fLaw.fBase, I b1.fLaw.fPercent, I b1.fLaw.fCap, I b1.fLaw.fLeast, I b1.fLaw.fBlind, .list 1 (List.map I b1.fBowlers), .list 6 (List.map Ref07Sheet.enc b1.fSheets), .list 1 (List.map I b1.fWithdrawn)]))), (8, .d (I y.2))]) (fun y => []) (fun y => loopN (fun rr x => ref07Fault_b4 N b1 rr x) y.1 y.2 = some r) (fun y => y.1) (N, 0) h (Sub.eq rfl ?_ ?_) ?_
          ·(repeat ((conv=>whnf);refine nr ?_));exact trivial
          ·exact trivial
          ·rintro ⟨n11, i20⟩ hl11;obtain ⟨n11, rfl, hl11⟩ := loopN_some hl11;replace hl11 : ref07Fault_b4 N b1 (loopN (fun rr x => ref07Fault_b4 N b1 rr x) n11) i20 = some r := hl11;rw [ref07Fault_b4] at hl11;(conv=>whnf);refine LnA.mk _ (List.length_map _) ?_;(conv=>whnf);refine Br.mk (fun hc298 => ?_) (fun hc298 => ?_)
           ·replace hl11 := ite_t hc298 hl11;(conv=>whnf);refine SeqG.mk Unit (fun y => [(1, .d (.ref (.agg [I b1.fLaw.fBase, I b1.fLaw.fPercent, I b1.fLaw.fCap, I b1.fLaw.fLeast, I b1.fLaw.fBlind, .list 1 (List.map I b1.fBowlers), .list 6 (List.map Ref07Sheet.enc b1.fSheets), .list 1 (List.map I b1.fWithdrawn)]))), (8, .d (I i20))]) (fun y => []) (fun y => ref07Fault_k2 N i20 (loopN (fun rr x => ref07Fault_b4 N b1 rr x) n11) = some r) ?_ ?_
            ·(conv=>whnf);refine LoopG.mk (Nat × Int) (fun y => [(1, .d (.ref (.agg [I b1.fLaw.fBase, I b1.fLaw.fPercent, I b1.fLaw.fCap, I b1.fLaw.fLeast, I b1.fLaw.fBlind, .list 1 (List.map I b1.fBowlers), .list 6 (List.map Ref07Sheet.enc b1.fSheets), .list 1 (List.map I b1.fWithdrawn)]))), (8, .d (I i20)), (9, .d (I y.2))]) (fun y => []) (fun y => loopN (fun rr x => ref07Fault_b3 N b1 i20 (loopN (fun rr x => ref07Fault_b4 N b1 rr x) n11) rr x) y.1 y.2 = some r) (fun y => y.1) (N, 0) hl11 (Sub.eq rfl ?_ ?_) ?_
             ·(repeat ((conv=>whnf);refine nr ?_));exact trivial
             ·exact trivial
             ·rintro ⟨n13, k32⟩ hl13;obtain ⟨n13, rfl, hl13⟩ := loopN_some hl13;replace hl13 : ref07Fault_b3 N b1 i20 (loopN (fun rr x => ref07Fault_b4 N b1 rr x) n11) (loopN (fun rr x => ref07Fault_b3 N b1 i20 (loopN (fun rr x => ref07Fault_b4 N b1 rr x) n11) rr x) n13) k32 = some r := hl13;rw [ref07Fault_b3] at hl13;(conv=>whnf);refine Br.mk (fun hc340 => ?_) (fun hc340 => ?_)
              ·replace hl13 := ite_t hc340 hl13;obtain ⟨v64, hx468, hl13⟩ := obind hl13;(conv=>whnf);refine SeqG.mk Unit (fun y => [(1, .d (.ref (.agg [I b1.fLaw.fBase, I b1.fLaw.fPercent, I b1.fLaw.fCap, I b1.fLaw.fLeast, I b1.fLaw.fBlind, .list 1 (List.map I b1.fBowlers), .list 6 (List.map Ref07Sheet.enc b1.fSheets), .list 1 (List.map I b1.fWithdrawn)]))), (8, .d (I i20)), (9, .d (I k32)), (143, .d (.bool v64))]) (fun y => []) (fun _ => True) ?_ ?_
               ·obtain ⟨x227, hx469, hx468⟩ := obind hx468;obtain ⟨x228, hx470, hx468⟩ := obind hx468;(conv=>whnf);refine DrawG.mk (.take 0 (.take 1 (.take 2 (.take 3 (.take 4 (.take 5 (.take 6 (.take 7 (.take 8 (.take 9 (.take 10 (.take 11 (.take 12 (.take 13 (.spl 131 (.take 14 (.take 15 (.take 16 (.take 17 (.take 18 (.take 19 (.take 20 (.take 21 (.take 22 (.take 23 (.take 24 (.take 25 .done))))))))))))))))))))))))))) (by kernel_rfl) ?_;(conv=>whnf);refine Side.mk rfl ⟨_, idx_0 hx469, idx_map _ hx469, ?_⟩;(conv=>whnf);refine Side.mk rfl ⟨_, idx_0 hx470, idx_map _ hx470, ?_⟩;(conv=>whnf);refine Br.mk (fun hc345 => ?_) (fun hc345 => ?_)
                ·replace hx468 := ite_t hc345 hx468;(conv=>whnf);refine Side.mk rfl ⟨_, idx_0 hx469, idx_map _ hx469, ?_⟩;(conv=>whnf);refine Side.mk rfl ⟨_, idx_0 hx470, idx_map _ hx470, ?_⟩;(conv=>whnf);refine Need.mk ⟨rfl, rfl⟩ (EqB.mk _ (Ref07Sheet.eqc x227 x228) ?_);cases hx468;(conv=>whnf);refine ⟨(), trivial, Sub.eq rfl ?_ ?_⟩
                 ·(repeat ((conv=>whnf);refine nr ?_));exact trivial
                 ·exact trivial
                ·replace hx468 := ite_f hc345 hx468;cases hx468;(conv=>whnf);refine ⟨(), trivial, Sub.eq rfl ?_ ?_⟩
                 ·(repeat ((conv=>whnf);refine nr ?_));exact trivial
                 ·exact trivial
               ·rintro _ _;(conv=>whnf);refine Br.mk (fun hc346 => ?_) (fun hc346 => ?_)
                ·replace hl13 := ite_t hc346 hl13;(conv=>whnf);cases hl13;exact rfl
                ·replace hl13 := ite_f hc346 hl13;(conv=>whnf);refine ⟨(n13, w64 (k32 + 1)), hl13, Sub.eq rfl ?_ ?_, Nat.lt_succ_self _⟩
                 ·(repeat ((conv=>whnf);refine nr ?_));exact trivial
                 ·exact trivial
              ·replace hl13 := ite_f hc340 hl13;(conv=>whnf);refine ⟨(), hl13, Sub.eq rfl ?_ ?_⟩
               ·(repeat ((conv=>whnf);refine nr ?_));exact trivial
               ·exact trivial
            ·rintro _ h;unfold ref07Fault_k2 at h;(conv=>whnf);refine ⟨(n11, w64 (i20 + 1)), h, Sub.eq rfl ?_ ?_, Nat.lt_succ_self _⟩
             ·(repeat ((conv=>whnf);refine nr ?_));exact trivial
             ·exact trivial
           ·replace hl11 := ite_f hc298 hl11;(conv=>whnf);refine ⟨(), hl11, Sub.eq rfl ?_ ?_⟩
            ·(repeat ((conv=>whnf);refine nr ?_));exact trivial
            ·exact trivial
         ·clear h;rintro _ h;unfold ref07Fault_k1 at h;(conv=>whnf);cases h;exact rfl
theorem rateWithinC {N : Nat} (hN : N ≤ 1073741824) {n1 : Int} {low1 : Int} {high1 : Int} {r : Bool} (h : rateWithin N n1 low1 high1 = some r) :
    ACalls Tryz.prog 60 [.d (I n1), .d (I low1), .d (I high1)] [] fun e os => e = .ret (.d (.bool r)) ∧ os = [] := by
  refine acalls_f (fresh := false) tt_ok dr_ok ⟨[], [], [], [], [1], 0, []⟩ Tryz.func60 rfl Tryz.call60 rfl ?_
  unfold rateWithin at h
  obtain ⟨v1, hx1, h⟩ := obind h;(conv=>whnf);refine SeqG.mk Unit (fun y => [(6, .d (.bool v1))]) (fun y => []) (fun _ => True) ?_ ?_
  ·(conv=>whnf);refine Br.mk (fun hc2 => ?_) (fun hc2 => ?_)
   ·replace hx1 := ite_t hc2 hx1;cases hx1;(conv=>whnf);refine ⟨(), trivial, Sub.eq rfl ?_ ?_⟩
    ·(repeat ((conv=>whnf);refine nr ?_));exact trivial
    ·exact trivial
   ·replace hx1 := ite_f hc2 hx1;cases hx1;(conv=>whnf);refine ⟨(), trivial, Sub.eq rfl ?_ ?_⟩
    ·(repeat ((conv=>whnf);refine nr ?_));exact trivial
    ·exact trivial
  ·rintro _ _;(conv=>whnf);cases h;exact rfl
theorem rateCountC {N : Nat} (hN : N ≤ 1073741824) {n1 : Int} {r : Bool} (h : rateCount N n1 = some r) :
    ACalls Tryz.prog 94 [.d (I n1)] [] fun e os => e = .ret (.d (.bool r)) ∧ os = [] := by
  refine acalls_f (fresh := false) tt_ok dr_ok ⟨[], [], [], [], [], 0, []⟩ Tryz.func94 rfl Tryz.call94 rfl ?_
  unfold rateCount at h
  obtain ⟨r2, hx2, h⟩ := obind h;(conv=>whnf);refine CallG.pure _ (rateWithinC hN hx2) ?_;(conv=>whnf);cases h;exact rfl
theorem rateLawValidC {N : Nat} (hN : N ≤ 1073741824) {l1 : RateLaw} {r : Bool} (h : rateLawValid N l1 = some r) :
    ACalls Tryz.prog 93 [.d (.agg [I l1.fBase, I l1.fPercent, I l1.fCap, I l1.fLeast, I l1.fBlind])] [] fun e os => e = .ret (.d (.bool r)) ∧ os = [] := by
  refine acalls_f (fresh := false) tt_ok dr_ok ⟨[1], [], [], [], [1], 0, []⟩ Tryz.func93 rfl Tryz.call93 rfl ?_
  unfold rateLawValid at h
  obtain ⟨v1, hx6, h⟩ := obind h;(conv=>whnf);refine SeqG.mk Unit (fun y => [(2, .d (.bool v1))]) (fun y => []) (fun _ => True) ?_ ?_
  ·obtain ⟨r6, hx7, hx6⟩ := obind hx6;(conv=>whnf);refine CallG.pure _ (rateCountC hN hx7) ?_;(conv=>whnf);refine Br.mk (fun hc5 => ?_) (fun hc5 => ?_)
   ·replace hx6 := ite_t hc5 hx6;obtain ⟨r7, hx8, hx6⟩ := obind hx6;(conv=>whnf);refine CallG.pure _ (rateWithinC hN hx8) ?_;(conv=>whnf);refine Br.mk (fun hc6 => ?_) (fun hc6 => ?_)
    ·replace hx6 := ite_t hc6 hx6;obtain ⟨r8, hx9, hx6⟩ := obind hx6;(conv=>whnf);refine CallG.pure _ (rateCountC hN hx9) ?_;(conv=>whnf);refine Br.mk (fun hc7 => ?_) (fun hc7 => ?_)
     ·replace hx6 := ite_t hc7 hx6;obtain ⟨r9, hx10, hx6⟩ := obind hx6;(conv=>whnf);refine CallG.pure _ (rateWithinC hN hx10) ?_;(conv=>whnf);refine Br.mk (fun hc8 => ?_) (fun hc8 => ?_)
      ·replace hx6 := ite_t hc8 hx6;obtain ⟨r10, hx11, hx6⟩ := obind hx6;(conv=>whnf);refine CallG.pure _ (rateCountC hN hx11) ?_;cases hx6;(conv=>whnf);refine ⟨(), trivial, Sub.eq rfl ?_ ?_⟩
       ·(repeat ((conv=>whnf);refine nr ?_));exact trivial
       ·exact trivial
      ·replace hx6 := ite_f hc8 hx6;cases hx6;(conv=>whnf);refine ⟨(), trivial, Sub.eq rfl ?_ ?_⟩
       ·(repeat ((conv=>whnf);refine nr ?_));exact trivial
       ·exact trivial
     ·replace hx6 := ite_f hc7 hx6;cases hx6;(conv=>whnf);refine ⟨(), trivial, Sub.eq rfl ?_ ?_⟩
      ·(repeat ((conv=>whnf);refine nr ?_));exact trivial
      ·exact trivial
    ·replace hx6 := ite_f hc6 hx6;cases hx6;(conv=>whnf);refine ⟨(), trivial, Sub.eq rfl ?_ ?_⟩
     ·(repeat ((conv=>whnf);refine nr ?_));exact trivial
     ·exact trivial
   ·replace hx6 := ite_f hc5 hx6;cases hx6;(conv=>whnf);refine ⟨(), trivial, Sub.eq rfl ?_ ?_⟩
    ·(repeat ((conv=>whnf);refine nr ?_));exact trivial
    ·exact trivial
  ·rintro _ _;(conv=>whnf);cases h;exact rfl
theorem rateAll1C {N : Nat} (hN : N ≤ 1073741824) {x1 : Int} {r : Bool} (h : rateAll1 N x1 = some r) :
    ACalls Tryz.prog 101 [.d (I x1), .d (.ref (.agg [.fn (.func 94) [] []]))] [] fun e os => e = .ret (.d (.bool r)) ∧ os = [] := by
  refine acalls_f (fresh := false) tt_ok dr_ok ⟨[], [], [], [], [], 0, []⟩ Tryz.func101 rfl Tryz.call101 rfl ?_
  unfold rateAll1 at h
  obtain ⟨r2, hx2, h⟩ := obind h;(conv=>whnf);refine CallG.pure _ (rateCountC hN hx2) ?_;(conv=>whnf);cases h;exact rfl
theorem slicesIndexFuncC {N : Nat} (hN : N ≤ 1073741824) {s1 : List Int} {r : Int} (h : slicesIndexFunc N s1 = some r) :
    ACalls Tryz.prog 127 [.d (.list 1 (List.map I s1)), .d (.fn (.func 101) [] [.ref (.agg [.fn (.func 94) [] []])])] [] fun e os => e = .ret (.d (I r)) ∧ os = [] := by
  refine acalls_f (fresh := false) tt_ok dr_ok ⟨[], [], [], [], [1001], 0, []⟩ Tryz.func127 rfl Tryz.call127 rfl ?_
  unfold slicesIndexFunc at h
  (conv=>whnf);refine SeqG.mk Unit (fun y => []) (fun y => []) (fun y => slicesIndexFunc_k1 N = some r) ?_ ?_
  ·(conv=>whnf);refine LnA.mk _ (List.length_map _) ?_;(conv=>whnf);refine LoopG.mk (Nat × (Int × Int)) (fun y => [(0, .d (.list 1 (List.map I s1))), (1, .d (.fn (.func 101) [] [.ref (.agg [.fn (.func 94) [] []])])), (7, .d (I y.2.1)), (8, .d (I y.2.2))]) (fun y => []) (fun y => loopN (fun rr x => slicesIndexFunc_b2 N s1 rr x.1 x.2) y.1 y.2 = some r) (fun y => y.1) (N, ((s1.length : Int), 0)) h (Sub.eq rfl ?_ ?_) ?_
   ·(repeat ((conv=>whnf);refine nr ?_));exact trivial
   ·exact trivial
   ·rintro ⟨n2, ⟨v17, v18⟩⟩ hl2;obtain ⟨n2, rfl, hl2⟩ := loopN_some hl2;replace hl2 : slicesIndexFunc_b2 N s1 (loopN (fun rr x => slicesIndexFunc_b2 N s1 rr x.1 x.2) n2) v17 v18 = some r := hl2;rw [slicesIndexFunc_b2] at hl2;(conv=>whnf);refine Br.mk (fun hc22 => ?_) (fun hc22 => ?_)
    ·replace hl2 := ite_t hc22 hl2;obtain ⟨x24, hx47, hl2⟩ := obind hl2;(conv=>whnf);refine Side.mk rfl ⟨_, idx_0 hx47, idx_map _ hx47, ?_⟩;obtain ⟨r24, hx48, hl2⟩ := obind hl2;(conv=>whnf);refine CallG.pure _ (rateAll1C hN hx48) ?_;(conv=>whnf);refine Br.mk (fun hc24 => ?_) (fun hc24 => ?_)
     ·replace hl2 := ite_t hc24 hl2;(conv=>whnf);cases hl2;exact rfl
     ·replace hl2 := ite_f hc24 hl2;(conv=>whnf);refine ⟨(n2, (v17, w64 (v18 + 1))), hl2, Sub.eq rfl ?_ ?_, Nat.lt_succ_self _⟩
      ·(repeat ((conv=>whnf);refine nr ?_));exact trivial
      ·exact trivial
    ·replace hl2 := ite_f hc22 hl2;(conv=>whnf);refine ⟨(), hl2, Sub.eq rfl ?_ ?_⟩
     ·(repeat ((conv=>whnf);refine nr ?_));exact trivial
     ·exact trivial
  ·clear h;rintro _ h;unfold slicesIndexFunc_k1 at h;(conv=>whnf);cases h;exact rfl
theorem slicesContainsFuncC {N : Nat} (hN : N ≤ 1073741824) {s1 : List Int} {r : Bool} (h : slicesContainsFunc N s1 = some r) :
    ACalls Tryz.prog 100 [.d (.list 1 (List.map I s1)), .d (.fn (.func 101) [] [.ref (.agg [.fn (.func 94) [] []])])] [] fun e os => e = .ret (.d (.bool r)) ∧ os = [] := by
  refine acalls_f (fresh := false) tt_ok dr_ok ⟨[], [], [], [], [], 0, []⟩ Tryz.func100 rfl Tryz.call100 rfl ?_
  unfold slicesContainsFunc at h
  obtain ⟨r2, hx2, h⟩ := obind h;(conv=>whnf);refine CallG.pure _ (slicesIndexFuncC hN hx2) ?_;(conv=>whnf);cases h;exact rfl
theorem rateAllC {N : Nat} (hN : N ≤ 1073741824) {l1 : List Int} {r : Bool} (h : rateAll N l1 = some r) :
    ACalls Tryz.prog 63 [.d (.list 1 (List.map I l1)), .d (.fn (.func 94) [] [])] [] fun e os => e = .ret (.d (.bool r)) ∧ os = [] := by
  refine acalls_f (fresh := false) tt_ok dr_ok ⟨[3], [], [], [], [], 0, []⟩ Tryz.func63 rfl Tryz.call63 rfl ?_
  unfold rateAll at h
  obtain ⟨r2, hx2, h⟩ := obind h;(conv=>whnf);refine CallG.pure _ (slicesContainsFuncC hN hx2) ?_;(conv=>whnf);cases h;exact rfl
theorem rateNumberC {N : Nat} (hN : N ≤ 1073741824) {n1 : Int} {r : Bool} (h : rateNumber N n1 = some r) :
    ACalls Tryz.prog 97 [.d (I n1)] [] fun e os => e = .ret (.d (.bool r)) ∧ os = [] := by
  refine acalls_f (fresh := false) tt_ok dr_ok ⟨[], [], [], [], [], 0, []⟩ Tryz.func97 rfl Tryz.call97 rfl ?_
  unfold rateNumber at h
  obtain ⟨r2, hx2, h⟩ := obind h;(conv=>whnf);refine CallG.pure _ (rateWithinC hN hx2) ?_;(conv=>whnf);cases h;exact rfl
theorem rateBookBowlerC {N : Nat} (hN : N ≤ 1073741824) {b1 : RateBook} {n1 : Int} {r : Bool} (h : rateBookBowler N b1 n1 = some r) :
    ACalls Tryz.prog 62 [.d (.agg [I b1.fLaw.fBase, I b1.fLaw.fPercent, I b1.fLaw.fCap, I b1.fLaw.fLeast, I b1.fLaw.fBlind, .list 1 (List.map I b1.fBowlers), .list 6 (List.map RateSheet.enc b1.fSheets), .list 1 (List.map I b1.fWithdrawn)]), .d (I n1)] [] fun e os => e = .ret (.d (.bool r)) ∧ os = [] := by
  refine acalls_f (fresh := false) tt_ok dr_ok ⟨[2], [], [], [], [], 0, []⟩ Tryz.func62 rfl Tryz.call62 rfl ?_
  unfold rateBookBowler at h
  (conv=>whnf);refine LnA.mk _ (List.length_map _) ?_;obtain ⟨r2, hx2, h⟩ := obind h;(conv=>whnf);refine CallG.pure _ (rateWithinC hN hx2) ?_;(conv=>whnf);cases h;exact rfl
theorem rateWeekC {N : Nat} (hN : N ≤ 1073741824) {n1 : Int} {r : Bool} (h : rateWeek N n1 = some r) :
    ACalls Tryz.prog 29 [.d (I n1)] [] fun e os => e = .ret (.d (.bool r)) ∧ os = [] := by
  refine acalls_f (fresh := false) tt_ok dr_ok ⟨[], [], [], [], [], 0, []⟩ Tryz.func29 rfl Tryz.call29 rfl ?_
  unfold rateWeek at h
  obtain ⟨r2, hx2, h⟩ := obind h;(conv=>whnf);refine CallG.pure _ (rateWithinC hN hx2) ?_;(conv=>whnf);cases h;exact rfl
theorem rateBookSheetC {N : Nat} (hN : N ≤ 1073741824) {b1 : RateBook} {s1 : RateSheet} {r : Bool} (h : rateBookSheet N b1 s1 = some r) :
    ACalls Tryz.prog 96 [.d (.agg [I b1.fLaw.fBase, I b1.fLaw.fPercent, I b1.fLaw.fCap, I b1.fLaw.fLeast, I b1.fLaw.fBlind, .list 1 (List.map I b1.fBowlers), .list 6 (List.map RateSheet.enc b1.fSheets), .list 1 (List.map I b1.fWithdrawn)]), .d (.agg [I s1.fNumber, I s1.fBowler, I s1.fWeek, I s1.fGames.a0, I s1.fGames.a1, I s1.fGames.a2])] [] fun e os => e = .ret (.d (.bool r)) ∧ os = [] := by
  refine acalls_f (fresh := false) tt_ok dr_ok ⟨[2, 3], [], [], [], [1], 0, []⟩ Tryz.func96 rfl Tryz.call96 rfl ?_
  unfold rateBookSheet at h
  obtain ⟨v1, hx5, h⟩ := obind h;(conv=>whnf);refine SeqG.mk Unit (fun y => [(4, .d (.bool v1))]) (fun y => []) (fun _ => True) ?_ ?_
  ·obtain ⟨r5, hx6, hx5⟩ := obind hx5;(conv=>whnf);refine CallG.pure _ (rateNumberC hN hx6) ?_;(conv=>whnf);refine Br.mk (fun hc4 => ?_) (fun hc4 => ?_)
   ·replace hx5 := ite_t hc4 hx5;obtain ⟨r6, hx7, hx5⟩ := obind hx5;(conv=>whnf);refine CallG.pure _ (rateBookBowlerC hN hx7) ?_;(conv=>whnf);refine Br.mk (fun hc5 => ?_) (fun hc5 => ?_)
    ·replace hx5 := ite_t hc5 hx5;obtain ⟨r7, hx8, hx5⟩ := obind hx5;(conv=>whnf);refine CallG.pure _ (rateWeekC hN hx8) ?_;(conv=>whnf);refine Br.mk (fun hc6 => ?_) (fun hc6 => ?_)
     ·replace hx5 := ite_t hc6 hx5;(conv=>whnf);refine ArrS.mk (List.map I [s1.fGames.a0, s1.fGames.a1, s1.fGames.a2]) rfl rfl (map_cells _ fun _ => rfl) ?_;obtain ⟨r8, hx9, hx5⟩ := obind hx5;(conv=>whnf);refine CallG.pure _ (rateAllC hN hx9) ?_;cases hx5;(conv=>whnf);refine ⟨(), trivial, Sub.eq rfl ?_ ?_⟩
      ·(repeat ((conv=>whnf);refine nr ?_));exact trivial
      ·exact trivial
     ·replace hx5 := ite_f hc6 hx5;cases hx5;(conv=>whnf);refine ⟨(), trivial, Sub.eq rfl ?_ ?_⟩
      ·(repeat ((conv=>whnf);refine nr ?_));exact trivial
      ·exact trivial
    ·replace hx5 := ite_f hc5 hx5;cases hx5;(conv=>whnf);refine ⟨(), trivial, Sub.eq rfl ?_ ?_⟩
     ·(repeat ((conv=>whnf);refine nr ?_));exact trivial
     ·exact trivial
   ·replace hx5 := ite_f hc4 hx5;cases hx5;(conv=>whnf);refine ⟨(), trivial, Sub.eq rfl ?_ ?_⟩
    ·(repeat ((conv=>whnf);refine nr ?_));exact trivial
    ·exact trivial
  ·rintro _ _;(conv=>whnf);cases h;exact rfl
theorem rateAll1XC {N : Nat} (hN : N ≤ 1073741824) {x1 : RateSheet} {a1 : RateBook} {r : Bool} (h : rateAll1X N x1 a1 = some r) :
    ACalls Tryz.prog 126 [.d (.agg [I x1.fNumber, I x1.fBowler, I x1.fWeek, I x1.fGames.a0, I x1.fGames.a1, I x1.fGames.a2]), .d (.ref (.agg [.fn (.func 96) [.agg [I a1.fLaw.fBase, I a1.fLaw.fPercent, I a1.fLaw.fCap, I a1.fLaw.fLeast, I a1.fLaw.fBlind, .list 1 (List.map I a1.fBowlers), .list 6 (List.map RateSheet.enc a1.fSheets), .list 1 (List.map I a1.fWithdrawn)]] []]))] [] fun e os => e = .ret (.d (.bool r)) ∧ os = [] := by
  refine acalls_f (fresh := false) tt_ok dr_ok ⟨[2], [], [], [], [], 0, []⟩ Tryz.func126 rfl Tryz.call126 rfl ?_
  unfold rateAll1X at h
  obtain ⟨r2, hx2, h⟩ := obind h;(conv=>whnf);refine CallG.pure _ (rateBookSheetC hN hx2) ?_;(conv=>whnf);cases h;exact rfl
theorem slicesIndexFuncXC {N : Nat} (hN : N ≤ 1073741824) {s1 : List RateSheet} {f1 : RateBook} {r : Int} (h : slicesIndexFuncX N s1 f1 = some r) :
    ACalls Tryz.prog 144 [.d (.list 6 (List.map RateSheet.enc s1)), .d (.fn (.func 126) [] [.ref (.agg [.fn (.func 96) [.agg [I f1.fLaw.fBase, I f1.fLaw.fPercent, I f1.fLaw.fCap, I f1.fLaw.fLeast, I f1.fLaw.fBlind, .list 1 (List.map I f1.fBowlers), .list 6 (List.map RateSheet.enc f1.fSheets), .list 1 (List.map I f1.fWithdrawn)]] []])])] [] fun e os => e = .ret (.d (I r)) ∧ os = [] := by
  refine acalls_f (fresh := false) tt_ok dr_ok ⟨[], [], [], [], [1001], 0, []⟩ Tryz.func144 rfl Tryz.call144 rfl ?_
  unfold slicesIndexFuncX at h
  (conv=>whnf);refine SeqG.mk Unit (fun y => []) (fun y => []) (fun y => slicesIndexFuncX_k1 N = some r) ?_ ?_
  ·(conv=>whnf);refine LnA.mk _ (List.length_map _) ?_;(conv=>whnf);refine LoopG.mk (Nat × (Int × Int)) (fun y => [(0, .d (.list 6 (List.map RateSheet.enc s1))), (1, .d (.fn (.func 126) [] [.ref (.agg [.fn (.func 96) [.agg [I f1.fLaw.fBase, I f1.fLaw.fPercent, I f1.fLaw.fCap, I f1.fLaw.fLeast, I f1.fLaw.fBlind, .list 1 (List.map I f1.fBowlers), .list 6 (List.map RateSheet.enc f1.fSheets), .list 1 (List.map I f1.fWithdrawn)]] []])])), (7, .d (I y.2.1)), (8, .d (I y.2.2))]) (fun y => []) (fun y => loopN (fun rr x => slicesIndexFuncX_b2 N s1 f1 rr x.1 x.2) y.1 y.2 = some r) (fun y => y.1) (N, ((s1.length : Int), 0)) h (Sub.eq rfl ?_ ?_) ?_
   ·(repeat ((conv=>whnf);refine nr ?_));exact trivial
   ·exact trivial
   ·rintro ⟨n2, ⟨v17, v18⟩⟩ hl2;obtain ⟨n2, rfl, hl2⟩ := loopN_some hl2;replace hl2 : slicesIndexFuncX_b2 N s1 f1 (loopN (fun rr x => slicesIndexFuncX_b2 N s1 f1 rr x.1 x.2) n2) v17 v18 = some r := hl2;rw [slicesIndexFuncX_b2] at hl2;(conv=>whnf);refine Br.mk (fun hc22 => ?_) (fun hc22 => ?_)
    ·replace hl2 := ite_t hc22 hl2;obtain ⟨x24, hx47, hl2⟩ := obind hl2;(conv=>whnf);refine Side.mk rfl ⟨_, idx_0 hx47, idx_map _ hx47, ?_⟩;obtain ⟨r24, hx48, hl2⟩ := obind hl2;(conv=>whnf);refine CallG.pure _ (rateAll1XC hN hx48) ?_;(conv=>whnf);refine Br.mk (fun hc24 => ?_) (fun hc24 => ?_)
     ·replace hl2 := ite_t hc24 hl2;(conv=>whnf);cases hl2;exact rfl
     ·replace hl2 := ite_f hc24 hl2;(conv=>whnf);refine ⟨(n2, (v17, w64 (v18 + 1))), hl2, Sub.eq rfl ?_ ?_, Nat.lt_succ_self _⟩
      ·(repeat ((conv=>whnf);refine nr ?_));exact trivial
      ·exact trivial
    ·replace hl2 := ite_f hc22 hl2;(conv=>whnf);refine ⟨(), hl2, Sub.eq rfl ?_ ?_⟩
     ·(repeat ((conv=>whnf);refine nr ?_));exact trivial
     ·exact trivial
  ·clear h;rintro _ h;unfold slicesIndexFuncX_k1 at h;(conv=>whnf);cases h;exact rfl
theorem slicesContainsFuncXC {N : Nat} (hN : N ≤ 1073741824) {s1 : List RateSheet} {f1 : RateBook} {r : Bool} (h : slicesContainsFuncX N s1 f1 = some r) :
    ACalls Tryz.prog 125 [.d (.list 6 (List.map RateSheet.enc s1)), .d (.fn (.func 126) [] [.ref (.agg [.fn (.func 96) [.agg [I f1.fLaw.fBase, I f1.fLaw.fPercent, I f1.fLaw.fCap, I f1.fLaw.fLeast, I f1.fLaw.fBlind, .list 1 (List.map I f1.fBowlers), .list 6 (List.map RateSheet.enc f1.fSheets), .list 1 (List.map I f1.fWithdrawn)]] []])])] [] fun e os => e = .ret (.d (.bool r)) ∧ os = [] := by
  refine acalls_f (fresh := false) tt_ok dr_ok ⟨[], [], [], [], [], 0, []⟩ Tryz.func125 rfl Tryz.call125 rfl ?_
  unfold slicesContainsFuncX at h
  obtain ⟨r2, hx2, h⟩ := obind h;(conv=>whnf);refine CallG.pure _ (slicesIndexFuncXC hN hx2) ?_;(conv=>whnf);cases h;exact rfl
theorem rateAllXC {N : Nat} (hN : N ≤ 1073741824) {l1 : List RateSheet} {right1 : RateBook} {r : Bool} (h : rateAllX N l1 right1 = some r) :
    ACalls Tryz.prog 95 [.d (.list 6 (List.map RateSheet.enc l1)), .d (.fn (.func 96) [.agg [I right1.fLaw.fBase, I right1.fLaw.fPercent, I right1.fLaw.fCap, I right1.fLaw.fLeast, I right1.fLaw.fBlind, .list 1 (List.map I right1.fBowlers), .list 6 (List.map RateSheet.enc right1.fSheets), .list 1 (List.map I right1.fWithdrawn)]] [])] [] fun e os => e = .ret (.d (.bool r)) ∧ os = [] := by
  refine acalls_f (fresh := false) tt_ok dr_ok ⟨[3], [], [], [], [], 0, []⟩ Tryz.func95 rfl Tryz.call95 rfl ?_
  unfold rateAllX at h
  obtain ⟨r2, hx2, h⟩ := obind h;(conv=>whnf);refine CallG.pure _ (slicesContainsFuncXC hN hx2) ?_;(conv=>whnf);cases h;exact rfl
theorem rateAll1XXC {N : Nat} (hN : N ≤ 1073741824) {x1 : Int} {r : Bool} (h : rateAll1XX N x1 = some r) :
    ACalls Tryz.prog 101 [.d (I x1), .d (.ref (.agg [.fn (.func 97) [] []]))] [] fun e os => e = .ret (.d (.bool r)) ∧ os = [] := by
  refine acalls_f (fresh := false) tt_ok dr_ok ⟨[], [], [], [], [], 0, []⟩ Tryz.func101 rfl Tryz.call101 rfl ?_
  unfold rateAll1XX at h
  obtain ⟨r2, hx2, h⟩ := obind h;(conv=>whnf);refine CallG.pure _ (rateNumberC hN hx2) ?_;(conv=>whnf);cases h;exact rfl
theorem slicesIndexFuncXXC {N : Nat} (hN : N ≤ 1073741824) {s1 : List Int} {r : Int} (h : slicesIndexFuncXX N s1 = some r) :
    ACalls Tryz.prog 127 [.d (.list 1 (List.map I s1)), .d (.fn (.func 101) [] [.ref (.agg [.fn (.func 97) [] []])])] [] fun e os => e = .ret (.d (I r)) ∧ os = [] := by
  refine acalls_f (fresh := false) tt_ok dr_ok ⟨[], [], [], [], [1001], 0, []⟩ Tryz.func127 rfl Tryz.call127 rfl ?_
  unfold slicesIndexFuncXX at h
  (conv=>whnf);refine SeqG.mk Unit (fun y => []) (fun y => []) (fun y => slicesIndexFuncXX_k1 N = some r) ?_ ?_
  ·(conv=>whnf);refine LnA.mk _ (List.length_map _) ?_;(conv=>whnf);refine LoopG.mk (Nat × (Int × Int)) (fun y => [(0, .d (.list 1 (List.map I s1))), (1, .d (.fn (.func 101) [] [.ref (.agg [.fn (.func 97) [] []])])), (7, .d (I y.2.1)), (8, .d (I y.2.2))]) (fun y => []) (fun y => loopN (fun rr x => slicesIndexFuncXX_b2 N s1 rr x.1 x.2) y.1 y.2 = some r) (fun y => y.1) (N, ((s1.length : Int), 0)) h (Sub.eq rfl ?_ ?_) ?_
   ·(repeat ((conv=>whnf);refine nr ?_));exact trivial
   ·exact trivial
   ·rintro ⟨n2, ⟨v17, v18⟩⟩ hl2;obtain ⟨n2, rfl, hl2⟩ := loopN_some hl2;replace hl2 : slicesIndexFuncXX_b2 N s1 (loopN (fun rr x => slicesIndexFuncXX_b2 N s1 rr x.1 x.2) n2) v17 v18 = some r := hl2;rw [slicesIndexFuncXX_b2] at hl2;(conv=>whnf);refine Br.mk (fun hc22 => ?_) (fun hc22 => ?_)
    ·replace hl2 := ite_t hc22 hl2;obtain ⟨x24, hx47, hl2⟩ := obind hl2;(conv=>whnf);refine Side.mk rfl ⟨_, idx_0 hx47, idx_map _ hx47, ?_⟩;obtain ⟨r24, hx48, hl2⟩ := obind hl2;(conv=>whnf);refine CallG.pure _ (rateAll1XXC hN hx48) ?_;(conv=>whnf);refine Br.mk (fun hc24 => ?_) (fun hc24 => ?_)
     ·replace hl2 := ite_t hc24 hl2;(conv=>whnf);cases hl2;exact rfl
     ·replace hl2 := ite_f hc24 hl2;(conv=>whnf);refine ⟨(n2, (v17, w64 (v18 + 1))), hl2, Sub.eq rfl ?_ ?_, Nat.lt_succ_self _⟩
      ·(repeat ((conv=>whnf);refine nr ?_));exact trivial
      ·exact trivial
    ·replace hl2 := ite_f hc22 hl2;(conv=>whnf);refine ⟨(), hl2, Sub.eq rfl ?_ ?_⟩
     ·(repeat ((conv=>whnf);refine nr ?_));exact trivial
     ·exact trivial
  ·clear h;rintro _ h;unfold slicesIndexFuncXX_k1 at h;(conv=>whnf);cases h;exact rfl
theorem slicesContainsFuncXXC {N : Nat} (hN : N ≤ 1073741824) {s1 : List Int} {r : Bool} (h : slicesContainsFuncXX N s1 = some r) :
    ACalls Tryz.prog 100 [.d (.list 1 (List.map I s1)), .d (.fn (.func 101) [] [.ref (.agg [.fn (.func 97) [] []])])] [] fun e os => e = .ret (.d (.bool r)) ∧ os = [] := by
  refine acalls_f (fresh := false) tt_ok dr_ok ⟨[], [], [], [], [], 0, []⟩ Tryz.func100 rfl Tryz.call100 rfl ?_
  unfold slicesContainsFuncXX at h
  obtain ⟨r2, hx2, h⟩ := obind h;(conv=>whnf);refine CallG.pure _ (slicesIndexFuncXXC hN hx2) ?_;(conv=>whnf);cases h;exact rfl
theorem rateAllXXC {N : Nat} (hN : N ≤ 1073741824) {l1 : List Int} {r : Bool} (h : rateAllXX N l1 = some r) :
    ACalls Tryz.prog 63 [.d (.list 1 (List.map I l1)), .d (.fn (.func 97) [] [])] [] fun e os => e = .ret (.d (.bool r)) ∧ os = [] := by
  refine acalls_f (fresh := false) tt_ok dr_ok ⟨[3], [], [], [], [], 0, []⟩ Tryz.func63 rfl Tryz.call63 rfl ?_
  unfold rateAllXX at h
  obtain ⟨r2, hx2, h⟩ := obind h;(conv=>whnf);refine CallG.pure _ (slicesContainsFuncXXC hN hx2) ?_;(conv=>whnf);cases h;exact rfl
theorem rateRisingC {N : Nat} (hN : N ≤ 1073741824) {l1 : List Int} {r : Bool} (h : rateRising N l1 = some r) :
    ACalls Tryz.prog 65 [.d (.list 1 (List.map I l1))] [] fun e os => e = .ret (.d (.bool r)) ∧ os = [] := by
  refine acalls_f (fresh := false) tt_ok dr_ok ⟨[], [], [], [], [4, 1001], 0, []⟩ Tryz.func65 rfl Tryz.call65 rfl ?_
  unfold rateRising at h
  (conv=>whnf);refine SeqG.mk Unit (fun y => []) (fun y => []) (fun y => rateRising_k1 N = some r) ?_ ?_
  ·(conv=>whnf);refine LnA.mk _ (List.length_map _) ?_;(conv=>whnf);refine LoopG.mk (Nat × (Int × Int)) (fun y => [(0, .d (.list 1 (List.map I l1))), (5, .d (I y.2.1)), (6, .d (I y.2.2))]) (fun y => []) (fun y => loopN (fun rr x => rateRising_b2 N l1 rr x.1 x.2) y.1 y.2 = some r) (fun y => y.1) (N, ((l1.length : Int), 0)) h (Sub.eq rfl ?_ ?_) ?_
   ·(repeat ((conv=>whnf);refine nr ?_));exact trivial
   ·exact trivial
   ·rintro ⟨n2, ⟨v23, v24⟩⟩ hl2;obtain ⟨n2, rfl, hl2⟩ := loopN_some hl2;replace hl2 : rateRising_b2 N l1 (loopN (fun rr x => rateRising_b2 N l1 rr x.1 x.2) n2) v23 v24 = some r := hl2;rw [rateRising_b2] at hl2;(conv=>whnf);refine Br.mk (fun hc30 => ?_) (fun hc30 => ?_)
    ·replace hl2 := ite_t hc30 hl2;obtain ⟨v26, hx42, hl2⟩ := obind hl2;(conv=>whnf);refine SeqG.mk Unit (fun y => [(0, .d (.list 1 (List.map I l1))), (5, .d (I v23)), (6, .d (I v24)), (22, .d (.bool v26))]) (fun y => []) (fun _ => True) ?_ ?_
     ·(conv=>whnf);refine DrawG.mk (.take 0 (.take 1 (.take 2 (.spl 11 (.take 3 (.take 4 (.take 5 (.take 6 (.take 7 (.take 8 (.take 9 (.take 10 (.take 11 (.take 12 (.take 13 .done))))))))))))))) (by kernel_rfl) ?_;(conv=>whnf);refine Br.mk (fun hc35 => ?_) (fun hc35 => ?_)
      ·replace hx42 := ite_t hc35 hx42;obtain ⟨x31, hx43, hx42⟩ := obind hx42;obtain ⟨x32, hx44, hx42⟩ := obind hx42;(conv=>whnf);refine Side.mk rfl ⟨_, idx_0 hx43, idx_map _ hx43, ?_⟩;(conv=>whnf);refine Side.mk rfl ⟨_, idx_0 hx44, idx_map _ hx44, ?_⟩;cases hx42;(conv=>whnf);refine ⟨(), trivial, Sub.eq rfl ?_ ?_⟩
       ·(repeat ((conv=>whnf);refine nr ?_));exact trivial
       ·exact trivial
      ·replace hx42 := ite_f hc35 hx42;cases hx42;(conv=>whnf);refine ⟨(), trivial, Sub.eq rfl ?_ ?_⟩
       ·(repeat ((conv=>whnf);refine nr ?_));exact trivial
       ·exact trivial
     ·rintro _ _;(conv=>whnf);refine Br.mk (fun hc36 => ?_) (fun hc36 => ?_)
      ·replace hl2 := ite_t hc36 hl2;(conv=>whnf);cases hl2;exact rfl
      ·replace hl2 := ite_f hc36 hl2;(conv=>whnf);refine ⟨(n2, (v23, w64 (v24 + 1))), hl2, Sub.eq rfl ?_ ?_, Nat.lt_succ_self _⟩
       ·(repeat ((conv=>whnf);refine nr ?_));exact trivial
       ·exact trivial
    ·replace hl2 := ite_f hc30 hl2;(conv=>whnf);refine ⟨(), hl2, Sub.eq rfl ?_ ?_⟩
     ·(repeat ((conv=>whnf);refine nr ?_));exact trivial
     ·exact trivial
  ·clear h;rintro _ h;unfold rateRising_k1 at h;(conv=>whnf);cases h;exact rfl
theorem rateCheckBookC {N : Nat} (hN : N ≤ 1073741824) {b1 : RateBook} {r : Int} (h : rateCheckBook N b1 = some r) :
    ACalls Tryz.prog 58 [.d (.agg [I b1.fLaw.fBase, I b1.fLaw.fPercent, I b1.fLaw.fCap, I b1.fLaw.fLeast, I b1.fLaw.fBlind, .list 1 (List.map I b1.fBowlers), .list 6 (List.map RateSheet.enc b1.fSheets), .list 1 (List.map I b1.fWithdrawn)])] [] fun e os => e = .ret (.d (I r)) ∧ os = [] := by
  refine acalls_f (fresh := false) tt_ok dr_ok ⟨[1], [], [], [], [1, 3, 11, 1005, 1007], 0, []⟩ Tryz.func58 rfl Tryz.call58 rfl ?_
  unfold rateCheckBook at h
  obtain ⟨v3, hx13, h⟩ := obind h;(conv=>whnf);refine SeqG.mk Unit (fun y => [(1, .d (.ref (.agg [I b1.fLaw.fBase, I b1.fLaw.fPercent, I b1.fLaw.fCap, I b1.fLaw.fLeast, I b1.fLaw.fBlind, .list 1 (List.map I b1.fBowlers), .list 6 (List.map RateSheet.enc b1.fSheets), .list 1 (List.map I b1.fWithdrawn)]))), (7, .d (.bool v3))]) (fun y => []) (fun _ => True) ?_ ?_
  ·(conv=>whnf);refine LnA.mk _ (List.length_map _) ?_;(conv=>whnf);refine Br.mk (fun hc17 => ?_) (fun hc17 => ?_)
   ·replace hx13 := ite_f hc17 hx13;(conv=>whnf);refine LnA.mk _ (List.length_map _) ?_;(conv=>whnf);refine Br.mk (fun hc18 => ?_) (fun hc18 => ?_)
    ·replace hx13 := ite_f hc18 hx13;(conv=>whnf);refine LnA.mk _ (List.length_map _) ?_;cases hx13;(conv=>whnf);refine ⟨(), trivial, Sub.eq rfl ?_ ?_⟩
     ·(repeat ((conv=>whnf);refine nr ?_));exact trivial
     ·exact trivial
    ·replace hx13 := ite_t hc18 hx13;cases hx13;(conv=>whnf);refine ⟨(), trivial, Sub.eq rfl ?_ ?_⟩
     ·(repeat ((conv=>whnf);refine nr ?_));exact trivial
     ·exact trivial
   ·replace hx13 := ite_t hc17 hx13;cases hx13;(conv=>whnf);refine ⟨(), trivial, Sub.eq rfl ?_ ?_⟩
    ·(repeat ((conv=>whnf);refine nr ?_));exact trivial
    ·exact trivial
  ·rintro _ _;(conv=>whnf);refine Br.mk (fun hc19 => ?_) (fun hc19 => ?_)
   ·replace h := ite_t hc19 h;(conv=>whnf);cases h;exact rfl
   ·replace h := ite_f hc19 h;obtain ⟨v4, hx19, h⟩ := obind h;(conv=>whnf);refine SeqG.mk Unit (fun y => [(1, .d (.ref (.agg [I b1.fLaw.fBase, I b1.fLaw.fPercent, I b1.fLaw.fCap, I b1.fLaw.fLeast, I b1.fLaw.fBlind, .list 1 (List.map I b1.fBowlers), .list 6 (List.map RateSheet.enc b1.fSheets), .list 1 (List.map I b1.fWithdrawn)]))), (24, .d (.bool v4))]) (fun y => []) (fun _ => True) ?_ ?_
    ·obtain ⟨r16, hx20, hx19⟩ := obind hx19;(conv=>whnf);refine CallG.pure _ (rateLawValidC hN hx20) ?_;(conv=>whnf);refine Br.mk (fun hc24 => ?_) (fun hc24 => ?_)
     ·replace hx19 := ite_f hc24 hx19;obtain ⟨r17, hx21, hx19⟩ := obind hx19;(conv=>whnf);refine CallG.pure _ (rateAllC hN hx21) ?_;(conv=>whnf);refine Br.mk (fun hc25 => ?_) (fun hc25 => ?_)
      ·replace hx19 := ite_f hc25 hx19;obtain ⟨r18, hx22, hx19⟩ := obind hx19;(conv=>whnf);refine CallG.pure _ (rateAllXC hN hx22) ?_;(conv=>whnf);refine Br.mk (fun hc26 => ?_) (fun hc26 => ?_)
       ·replace hx19 := ite_f hc26 hx19;obtain ⟨r19, hx23, hx19⟩ := obind hx19;(conv=>whnf);refine CallG.pure _ (rateAllXXC hN hx23) ?_;(conv=>whnf);refine Br.mk (fun hc27 => ?_) (fun hc27 => ?_)
        ·replace hx19 := ite_f hc27 hx19;obtain ⟨r20, hx24, hx19⟩ := obind hx19;(conv=>whnf);refine CallG.pure _ (rateRisingC hN hx24) ?_;cases hx19;(conv=>whnf);refine ⟨(), trivial, Sub.eq rfl ?_ ?_⟩
         ·(repeat ((conv=>whnf);refine nr ?_));exact trivial
         ·exact trivial
        ·replace hx19 := ite_t hc27 hx19;cases hx19;(conv=>whnf);refine ⟨(), trivial, Sub.eq rfl ?_ ?_⟩
         ·(repeat ((conv=>whnf);refine nr ?_));exact trivial
         ·exact trivial
       ·replace hx19 := ite_t hc26 hx19;cases hx19;(conv=>whnf);refine ⟨(), trivial, Sub.eq rfl ?_ ?_⟩
        ·(repeat ((conv=>whnf);refine nr ?_));exact trivial
        ·exact trivial
      ·replace hx19 := ite_t hc25 hx19;cases hx19;(conv=>whnf);refine ⟨(), trivial, Sub.eq rfl ?_ ?_⟩
       ·(repeat ((conv=>whnf);refine nr ?_));exact trivial
       ·exact trivial
     ·replace hx19 := ite_t hc24 hx19;cases hx19;(conv=>whnf);refine ⟨(), trivial, Sub.eq rfl ?_ ?_⟩
      ·(repeat ((conv=>whnf);refine nr ?_));exact trivial
      ·exact trivial
    ·rintro _ _;(conv=>whnf);refine Br.mk (fun hc28 => ?_) (fun hc28 => ?_)
     ·replace h := ite_t hc28 h;(conv=>whnf);cases h;exact rfl
     ·replace h := ite_f hc28 h;(conv=>whnf);refine SeqG.mk Unit (fun y => []) (fun y => []) (fun y => rateCheckBook_k1 N = some r) ?_ ?_
      ·(conv=>whnf);refine LnA.mk _ (List.length_map _) ?_;(conv=>whnf);refine LoopG.mk (Nat × (Int × Int)) (fun y => [(1, .d (.ref (.agg [I b1.fLaw.fBase, I b1.fLaw.fPercent, I b1.fLaw.fCap, I b1.fLaw.fLeast, I b1.fLaw.fBlind, .list 1 (List.map I b1.fBowlers), .list 6 (List.map RateSheet.enc b1.fSheets), .list 1 (List.map I b1.fWithdrawn)]))), (56, .d (.list 6 (List.map RateSheet.enc b1.fSheets))), (57, .d (I y.2.1)), (58, .d (I y.2.2))]) (fun y => []) (fun y => loopN (fun rr x => rateCheckBook_b4 N b1 rr x.1 x.2) y.1 y.2 = some r) (fun y => y.1) (N, ((b1.fSheets.length : Int), 0)) h (Sub.eq rfl ?_ ?_) ?_
       ·(repeat ((conv=>whnf);refine nr ?_));exact trivial
       ·exact trivial
       ·rintro ⟨n12, ⟨v171, v172⟩⟩ hl12;obtain ⟨n12, rfl, hl12⟩ := loopN_some hl12;replace hl12 : rateCheckBook_b4 N b1 (loopN (fun rr x => rateCheckBook_b4 N b1 rr x.1 x.2) n12) v171 v172 = some r := hl12;rw [rateCheckBook_b4] at hl12;(conv=>whnf);refine Br.mk (fun hc520 => ?_) (fun hc520 => ?_)
        ·replace hl12 := ite_t hc520 hl12;(conv=>whnf);refine SeqG.mk Unit (fun y => [(1, .d (.ref (.agg [I b1.fLaw.fBase, I b1.fLaw.fPercent, I b1.fLaw.fCap, I b1.fLaw.fLeast, I b1.fLaw.fBlind, .list 1 (List.map I b1.fBowlers), .list 6 (List.map RateSheet.enc b1.fSheets), .list 1 (List.map I b1.fWithdrawn)]))), (56, .d (.list 6 (List.map RateSheet.enc b1.fSheets))), (57, .d (I v171)), (58, .d (I v172))]) (fun y => []) (fun y => rateCheckBook_k2 N v171 v172 (loopN (fun rr x => rateCheckBook_b4 N b1 rr x.1 x.2) n12) = some r) ?_ ?_
         ·obtain ⟨x156, hx268, hl12⟩ := obind hl12;(conv=>whnf);refine Side.mk rfl ⟨_, idx_0 hx268, idx_map _ hx268, ?_⟩;(conv=>whnf);intro b157;(conv=>whnf);refine sr ?_;obtain ⟨l24, hx270, hl12⟩ := obind hl12;(conv=>whnf);refine Need.mk (slc_need _ hx270) (Eqv.mk (List.map RateSheet.enc l24) (slc_map _ hx270) ?_);(conv=>whnf);refine LnA.mk _ (List.length_map _) ?_;(conv=>whnf)
          refine LoopG.mk (Nat × (Int × Int)) (fun y => [(1, .d (.ref (.agg [I b1.fLaw.fBase, I b1.fLaw.fPercent, I b1.fLaw.fCap, I b1.fLaw.fLeast, I b1.fLaw.fBlind, .list 1 (List.map I b1.fBowlers), .list 6 (List.map RateSheet.enc b1.fSheets), .list 1 (List.map I b1.fWithdrawn)]))), (4, .ptr 4 b157 0), (56, .d (.list 6 (List.map RateSheet.enc b1.fSheets))), (57, .d (I v171)), (58, .d (I v172)), (66, .d (.list 6 (List.map RateSheet.enc l24))), (67, .d (I y.2.1)), (68, .d (I y.2.2))]) (fun y => [(4, .cells b157 [.d (I x156.fNumber), .d (I x156.fBowler), .d (I x156.fWeek), .d (I x156.fGames.a0), .d (I x156.fGames.a1), .d (I x156.fGames.a2)])]) (fun y => loopN (fun rr x => rateCheckBook_b3 N v171 v172 (loopN (fun rr x => rateCheckBook_b4 N b1 rr x.1 x.2) n12) x156 l24 rr x.1 x.2) y.1 y.2 = some r) (fun y => y.1) (N, ((l24.length : Int), 0)) hl12 (Sub.eq rfl ?_ ?_) ?_
          ·(repeat ((conv=>whnf);refine nr ?_));exact trivial
          ·(conv=>whnf);refine no ?_;exact trivial
          ·rintro ⟨n14, ⟨v199, v200⟩⟩ hl14;obtain ⟨n14, rfl, hl14⟩ := loopN_some hl14;replace hl14 : rateCheckBook_b3 N v171 v172 (loopN (fun rr x => rateCheckBook_b4 N b1 rr x.1 x.2) n12) x156 l24 (loopN (fun rr x => rateCheckBook_b3 N v171 v172 (loopN (fun rr x => rateCheckBook_b4 N b1 rr x.1 x.2) n12) x156 l24 rr x.1 x.2) n14) v199 v200 = some r := hl14;rw [rateCheckBook_b3] at hl14;(conv=>whnf);refine Br.mk (fun hc602 => ?_) (fun hc602 => ?_)
           ·replace hl14 := ite_t hc602 hl14;obtain ⟨x168, hx287, hl14⟩ := obind hl14;(conv=>whnf);refine Side.mk rfl ⟨_, idx_0 hx287, idx_map _ hx287, ?_⟩;(conv=>whnf);intro b169;(conv=>whnf);refine sr ?_;obtain ⟨v202, hx288, hl14⟩ := obind hl14;(conv=>whnf)
            refine SeqG.mk Unit (fun y => [(1, .d (.ref (.agg [I b1.fLaw.fBase, I b1.fLaw.fPercent, I b1.fLaw.fCap, I b1.fLaw.fLeast, I b1.fLaw.fBlind, .list 1 (List.map I b1.fBowlers), .list 6 (List.map RateSheet.enc b1.fSheets), .list 1 (List.map I b1.fWithdrawn)]))), (4, .ptr 4 b157 0), (56, .d (.list 6 (List.map RateSheet.enc b1.fSheets))), (57, .d (I v171)), (58, .d (I v172)), (66, .d (.list 6 (List.map RateSheet.enc l24))), (67, .d (I v199)), (68, .d (I v200)), (97, .d (.bool v202))]) (fun y => [(4, .cells b157 [.d (I x156.fNumber), .d (I x156.fBowler), .d (I x156.fWeek), .d (I x156.fGames.a0), .d (I x156.fGames.a1), .d (I x156.fGames.a2)])]) (fun _ => True) ?_ ?_
            ·(conv=>whnf);refine sr ?_;(conv=>whnf);refine sr ?_;(conv=>whnf);refine Br.mk (fun hc613 => ?_) (fun hc613 => ?_)
             ·replace hx288 := ite_t hc613 hx288;(conv=>whnf);refine sr ?_;(conv=>whnf);refine sr ?_;(conv=>whnf);refine Br.mk (fun hc614 => ?_) (fun hc614 => ?_)
              ·replace hx288 := ite_f hc614 hx288;(conv=>whnf);refine sr ?_;(conv=>whnf);refine sr ?_;(conv=>whnf);refine Br.mk (fun hc615 => ?_) (fun hc615 => ?_)
               ·replace hx288 := ite_f hc615 hx288;(conv=>whnf);refine sr ?_;(conv=>whnf);refine sr ?_;(conv=>whnf);refine Need.mk ⟨rfl, rfl⟩ (EqB.mk _ (eqc_Ar3Inti64 x156.fGames x168.fGames) ?_);cases hx288;(conv=>whnf);refine ⟨(), trivial, Sub.eq rfl ?_ ?_⟩
                ·(repeat ((conv=>whnf);refine nr ?_));exact trivial
                ·(conv=>whnf);refine no ?_;exact trivial
               ·replace hx288 := ite_t hc615 hx288;cases hx288;(conv=>whnf);refine ⟨(), trivial, Sub.eq rfl ?_ ?_⟩
                ·(repeat ((conv=>whnf);refine nr ?_));exact trivial
                ·(conv=>whnf);refine no ?_;exact trivial
              ·replace hx288 := ite_t hc614 hx288;cases hx288;(conv=>whnf);refine ⟨(), trivial, Sub.eq rfl ?_ ?_⟩
               ·(repeat ((conv=>whnf);refine nr ?_));exact trivial
               ·(conv=>whnf);refine no ?_;exact trivial
             ·replace hx288 := ite_f hc613 hx288;cases hx288;(conv=>whnf);refine ⟨(), trivial, Sub.eq rfl ?_ ?_⟩
              ·(repeat ((conv=>whnf);refine nr ?_));exact trivial
              ·(conv=>whnf);refine no ?_;exact trivial
            ·rintro _ _;(conv=>whnf);refine Br.mk (fun hc616 => ?_) (fun hc616 => ?_)
             ·replace hl14 := ite_t hc616 hl14;(conv=>whnf);cases hl14;exact rfl
             ·replace hl14 := ite_f hc616 hl14;(conv=>whnf);refine ⟨(n14, (v199, w64 (v200 + 1))), hl14, Sub.eq rfl ?_ ?_, Nat.lt_succ_self _⟩
              ·(repeat ((conv=>whnf);refine nr ?_));exact trivial
              ·(conv=>whnf);refine no ?_;exact trivial
           ·replace hl14 := ite_f hc602 hl14;(conv=>whnf);refine ⟨(), hl14, Sub.eq rfl ?_ ?_⟩
            ·(repeat ((conv=>whnf);refine nr ?_));exact trivial
            ·exact trivial
         ·rintro _ h;unfold rateCheckBook_k2 at h;(conv=>whnf);refine ⟨(n12, (v171, w64 (v172 + 1))), h, Sub.eq rfl ?_ ?_, Nat.lt_succ_self _⟩
          ·(repeat ((conv=>whnf);refine nr ?_));exact trivial
          ·exact trivial
        ·replace hl12 := ite_f hc520 hl12;(conv=>whnf);refine ⟨(), hl12, Sub.eq rfl ?_ ?_⟩
         ·(repeat ((conv=>whnf);refine nr ?_));exact trivial
         ·exact trivial
      ·clear h;rintro _ h;unfold rateCheckBook_k1 at h;(conv=>whnf);cases h;exact rfl
theorem slicesIndexC {N : Nat} (hN : N ≤ 1073741824) {s1 : List Int} {v1 : Int} {r : Int} (h : slicesIndex N s1 v1 = some r) :
    ACalls Tryz.prog 98 [.d (.list 1 (List.map I s1)), .d (I v1)] [] fun e os => e = .ret (.d (I r)) ∧ os = [] := by
  refine acalls_f (fresh := false) tt_ok dr_ok ⟨[], [], [], [], [1001], 0, []⟩ Tryz.func98 rfl Tryz.call98 rfl ?_
  unfold slicesIndex at h
  (conv=>whnf);refine SeqG.mk Unit (fun y => []) (fun y => []) (fun y => slicesIndex_k1 N = some r) ?_ ?_
  ·(conv=>whnf);refine LnA.mk _ (List.length_map _) ?_;(conv=>whnf);refine LoopG.mk (Nat × (Int × Int)) (fun y => [(0, .d (.list 1 (List.map I s1))), (1, .d (I v1)), (7, .d (I y.2.1)), (8, .d (I y.2.2))]) (fun y => []) (fun y => loopN (fun rr x => slicesIndex_b2 N s1 v1 rr x.1 x.2) y.1 y.2 = some r) (fun y => y.1) (N, ((s1.length : Int), 0)) h (Sub.eq rfl ?_ ?_) ?_
   ·(repeat ((conv=>whnf);refine nr ?_));exact trivial
   ·exact trivial
   ·rintro ⟨n2, ⟨v18, v19⟩⟩ hl2;obtain ⟨n2, rfl, hl2⟩ := loopN_some hl2;replace hl2 : slicesIndex_b2 N s1 v1 (loopN (fun rr x => slicesIndex_b2 N s1 v1 rr x.1 x.2) n2) v18 v19 = some r := hl2;rw [slicesIndex_b2] at hl2;(conv=>whnf);refine Br.mk (fun hc22 => ?_) (fun hc22 => ?_)
    ·replace hl2 := ite_t hc22 hl2;obtain ⟨x24, hx24, hl2⟩ := obind hl2;(conv=>whnf);refine Side.mk rfl ⟨_, idx_0 hx24, idx_map _ hx24, ?_⟩;(conv=>whnf);refine Br.mk (fun hc24 => ?_) (fun hc24 => ?_)
     ·replace hl2 := ite_t hc24 hl2;(conv=>whnf);cases hl2;exact rfl
     ·replace hl2 := ite_f hc24 hl2;(conv=>whnf);refine ⟨(n2, (v18, w64 (v19 + 1))), hl2, Sub.eq rfl ?_ ?_, Nat.lt_succ_self _⟩
      ·(repeat ((conv=>whnf);refine nr ?_));exact trivial
      ·exact trivial
    ·replace hl2 := ite_f hc22 hl2;(conv=>whnf);refine ⟨(), hl2, Sub.eq rfl ?_ ?_⟩
     ·(repeat ((conv=>whnf);refine nr ?_));exact trivial
     ·exact trivial
  ·clear h;rintro _ h;unfold slicesIndex_k1 at h;(conv=>whnf);cases h;exact rfl
theorem slicesContainsC {N : Nat} (hN : N ≤ 1073741824) {s1 : List Int} {v1 : Int} {r : Bool} (h : slicesContains N s1 v1 = some r) :
    ACalls Tryz.prog 59 [.d (.list 1 (List.map I s1)), .d (I v1)] [] fun e os => e = .ret (.d (.bool r)) ∧ os = [] := by
  refine acalls_f (fresh := false) tt_ok dr_ok ⟨[], [], [], [], [], 0, []⟩ Tryz.func59 rfl Tryz.call59 rfl ?_
  unfold slicesContains at h
  obtain ⟨r2, hx2, h⟩ := obind h;(conv=>whnf);refine CallG.pure _ (slicesIndexC hN hx2) ?_;(conv=>whnf);cases h;exact rfl
def rateBookReadP  : Int ⊕ (Int × Int × Int × Int × Int × Int × (List Int) × (List RateSheet) × (List Int) × (List (RateTurn × RateSheet))) → AE → List (Nat × Ob) → Prop
  | .inl r => fun ae os => ∃ y : Unit, True ∧ ae = .ret (.d (.tup [.nilptr, I r])) ∧ os = []
  | .inr r => fun ae os => ∃ y : Nat × Nat, True ∧ ae = .ret (.tup [.ptr 145019 y.1 0, .d (I r.1)]) ∧ os = [(145019, .cells y.1 [.d (I r.2.1), .d (I r.2.2.1), .d (I r.2.2.2.1), .d (I r.2.2.2.2.1), .d (I r.2.2.2.2.2.1), .d (.list 1 (List.map I r.2.2.2.2.2.2.1)), .d (.list 6 (List.map RateSheet.enc r.2.2.2.2.2.2.2.1)), .d (.list 1 (List.map I r.2.2.2.2.2.2.2.2.1)), .mp 145017 y.2]), (145017, .map y.2 (List.map (fun p => (.agg [I p.1.fBowler, I p.1.fWeek], .agg [I p.2.fNumber, I p.2.fBowler, I p.2.fWeek, I p.2.fGames.a0, I p.2.fGames.a1, I p.2.fGames.a2])) r.2.2.2.2.2.2.2.2.2))]
theorem rateBookReadC {N : Nat} (hN : N ≤ 1073741824) {b1 : RateBook} {r : Int ⊕ (Int × Int × Int × Int × Int × Int × (List Int) × (List RateSheet) × (List Int) × (List (RateTurn × RateSheet)))} (h : rateBookRead N b1 = some r) :
    ACalls Tryz.prog 28 [.d (.agg [I b1.fLaw.fBase, I b1.fLaw.fPercent, I b1.fLaw.fCap, I b1.fLaw.fLeast, I b1.fLaw.fBlind, .list 1 (List.map I b1.fBowlers), .list 6 (List.map RateSheet.enc b1.fSheets), .list 1 (List.map I b1.fWithdrawn)])] [] (rateBookReadP  r) := by
  refine acalls_pred (fresh := false) tt_ok dr_ok ⟨[1], [], [], [], [9, 10, 1005, 1007], 145000, []⟩ Tryz.func28 rfl Tryz.call28 rfl ?_
  unfold rateBookRead at h
  obtain ⟨r4, hx4, h⟩ := obind h;(conv=>whnf);refine CallG.pure _ (rateCheckBookC hN hx4) ?_;(conv=>whnf);refine Br.mk (fun hc2 => ?_) (fun hc2 => ?_)
  ·replace h := ite_t hc2 h;(conv=>whnf);cases h;exact ⟨_, ⟨(), trivial, rfl, rfl⟩, inO_at (ren := id) trivial⟩
  ·replace h := ite_f hc2 h;(conv=>whnf);intro b4;(conv=>whnf);intro b5;obtain ⟨m8, hx56, h⟩ := obind h;(conv=>whnf);refine SeqG.mk Unit (fun y => [(5, .ptr 145019 b5 0)]) (fun y => [(145019, .cells b5 [.d (I b1.fLaw.fBase), .d (I b1.fLaw.fPercent), .d (I b1.fLaw.fCap), .d (I b1.fLaw.fLeast), .d (I b1.fLaw.fBlind), .d (.list 1 (List.map I b1.fBowlers)), .d (.list 6 (List.map RateSheet.enc b1.fSheets)), .d (.list 1 (List.map I b1.fWithdrawn)), .mp 145017 b4]), (145017, .map b4 (List.map (fun p => (.agg [I p.1.fBowler, I p.1.fWeek], .agg [I p.2.fNumber, I p.2.fBowler, I p.2.fWeek, I p.2.fGames.a0, I p.2.fGames.a1, I p.2.fGames.a2])) m8))]) (fun _ => True) ?_ ?_
   ·(conv=>whnf);refine LnA.mk _ (List.length_map _) ?_;(conv=>whnf)
    refine LoopG.mk (Nat × (Int × Int × (List (RateTurn × RateSheet)))) (fun y => [(1, .d (.ref (.agg [I b1.fLaw.fBase, I b1.fLaw.fPercent, I b1.fLaw.fCap, I b1.fLaw.fLeast, I b1.fLaw.fBlind, .list 1 (List.map I b1.fBowlers), .list 6 (List.map RateSheet.enc b1.fSheets), .list 1 (List.map I b1.fWithdrawn)]))), (5, .ptr 145019 b5 0), (21, .d (.list 6 (List.map RateSheet.enc b1.fSheets))), (22, .d (I y.2.1)), (23, .d (I y.2.2.1))]) (fun y => [(145019, .cells b5 [.d (I b1.fLaw.fBase), .d (I b1.fLaw.fPercent), .d (I b1.fLaw.fCap), .d (I b1.fLaw.fLeast), .d (I b1.fLaw.fBlind), .d (.list 1 (List.map I b1.fBowlers)), .d (.list 6 (List.map RateSheet.enc b1.fSheets)), .d (.list 1 (List.map I b1.fWithdrawn)), .mp 145017 b4]), (145017, .map b4 (List.map (fun p => (.agg [I p.1.fBowler, I p.1.fWeek], .agg [I p.2.fNumber, I p.2.fBowler, I p.2.fWeek, I p.2.fGames.a0, I p.2.fGames.a1, I p.2.fGames.a2])) y.2.2.2))]) (fun y => loopN (fun rr x => rateBookRead_b1 N b1 rr x.1 x.2.1 x.2.2) y.1 y.2 = some m8) (fun y => y.1) (N, ((b1.fSheets.length : Int), 0, ([] : List (RateTurn × RateSheet)))) hx56 (Sub.eq rfl ?_ ?_) ?_
    ·(repeat ((conv=>whnf);refine nr ?_));exact trivial
    ·(conv=>whnf);refine no ?_;(conv=>whnf);refine no ?_;exact trivial
    ·rintro ⟨n2, ⟨v47, v48, m14⟩⟩ hl2;obtain ⟨n2, rfl, hl2⟩ := loopN_some hl2;replace hl2 : rateBookRead_b1 N b1 (loopN (fun rr x => rateBookRead_b1 N b1 rr x.1 x.2.1 x.2.2) n2) v47 v48 m14 = some m8 := hl2;rw [rateBookRead_b1] at hl2;(conv=>whnf);refine Br.mk (fun hc64 => ?_) (fun hc64 => ?_)
     ·replace hl2 := ite_t hc64 hl2;obtain ⟨m15, hx99, hl2⟩ := obind hl2;(conv=>whnf)
      refine SeqG.mk Unit (fun y => [(1, .d (.ref (.agg [I b1.fLaw.fBase, I b1.fLaw.fPercent, I b1.fLaw.fCap, I b1.fLaw.fLeast, I b1.fLaw.fBlind, .list 1 (List.map I b1.fBowlers), .list 6 (List.map RateSheet.enc b1.fSheets), .list 1 (List.map I b1.fWithdrawn)]))), (5, .ptr 145019 b5 0), (21, .d (.list 6 (List.map RateSheet.enc b1.fSheets))), (22, .d (I v47)), (23, .d (I v48))]) (fun y => [(145019, .cells b5 [.d (I b1.fLaw.fBase), .d (I b1.fLaw.fPercent), .d (I b1.fLaw.fCap), .d (I b1.fLaw.fLeast), .d (I b1.fLaw.fBlind), .d (.list 1 (List.map I b1.fBowlers)), .d (.list 6 (List.map RateSheet.enc b1.fSheets)), .d (.list 1 (List.map I b1.fWithdrawn)), .mp 145017 b4]), (145017, .map b4 (List.map (fun p => (.agg [I p.1.fBowler, I p.1.fWeek], .agg [I p.2.fNumber, I p.2.fBowler, I p.2.fWeek, I p.2.fGames.a0, I p.2.fGames.a1, I p.2.fGames.a2])) m15))]) (fun _ => True) ?_ ?_
      ·obtain ⟨x24, hx101, hx99⟩ := obind hx99;(conv=>whnf);refine Side.mk rfl ⟨_, idx_0 hx101, idx_map _ hx101, ?_⟩;(conv=>whnf);intro b117;(conv=>whnf);refine sr ?_;(conv=>whnf);refine sr ?_;(conv=>whnf);refine sr ?_;(conv=>whnf);intro b119;(conv=>whnf);refine sr ?_;obtain ⟨⟨is35, c12⟩, hx103, hx99⟩ := obind hx99;(conv=>whnf)
       refine SeqG.mk Nat (fun y => [(1, .d (.ref (.agg [I b1.fLaw.fBase, I b1.fLaw.fPercent, I b1.fLaw.fCap, I b1.fLaw.fLeast, I b1.fLaw.fBlind, .list 1 (List.map I b1.fBowlers), .list 6 (List.map RateSheet.enc b1.fSheets), .list 1 (List.map I b1.fWithdrawn)]))), (5, .ptr 145019 b5 0), (7, .ptr 145007 b117 0), (8, .ptr 145008 b119 0), (9, .ptr 145009 y 0), (10, .d (.bool is35)), (21, .d (.list 6 (List.map RateSheet.enc b1.fSheets))), (22, .d (I v47)), (23, .d (I v48))]) (fun y => [(145019, .cells b5 [.d (I b1.fLaw.fBase), .d (I b1.fLaw.fPercent), .d (I b1.fLaw.fCap), .d (I b1.fLaw.fLeast), .d (I b1.fLaw.fBlind), .d (.list 1 (List.map I b1.fBowlers)), .d (.list 6 (List.map RateSheet.enc b1.fSheets)), .d (.list 1 (List.map I b1.fWithdrawn)), .mp 145017 b4]), (145007, .cells b117 [.d (I x24.fNumber), .d (I x24.fBowler), .d (I x24.fWeek), .d (I x24.fGames.a0), .d (I x24.fGames.a1), .d (I x24.fGames.a2)]), (145008, .cells b119 [.d (I x24.fBowler), .d (I x24.fWeek)]), (145009, .cells y [.d (I c12.fNumber), .d (I c12.fBowler), .d (I c12.fWeek), .d (I c12.fGames.a0), .d (I c12.fGames.a1), .d (I c12.fGames.a2)]), (145017, .map b4 (List.map (fun p => (.agg [I p.1.fBowler, I p.1.fWeek], .agg [I p.2.fNumber, I p.2.fBowler, I p.2.fWeek, I p.2.fGames.a0, I p.2.fGames.a1, I p.2.fGames.a2])) m14))]) (fun _ => True) ?_ ?_
       ·obtain ⟨⟨v53, is36⟩, hx104, hx103⟩ := obind hx103;(conv=>whnf);refine DrawG.mk (.take 0 (.take 1 (.take 2 (.take 3 (.take 4 (.alt 5 [2, 1, 0] (.take 6 (.take 7 (.take 8 (.alt 9 [8, 7, 6, 2, 1, 0] (.alt 10 [8] (.take 11 .done) .nil) .nil)))) (.alt 9 [4, 3, 2, 1, 0] (.alt 5 [2, 1, 0] (.take 6 (.take 7 (.take 8 (.alt 10 [8] (.take 11 .done) .nil)))) .nil) .nil))))))) (by kernel_rfl) ?_;(conv=>whnf);refine sr ?_;(conv=>whnf);refine sr ?_;(conv=>whnf);refine Both.mk ?_ ?_
        ·(conv=>whnf);refine Side.mk rfl (Need.mk rfl (Need.mk (fit_all (m := m14) (fun x : RateTurn => .agg [I x.fBowler, I x.fWeek]) (fun x : RateSheet => .agg [I x.fNumber, I x.fBowler, I x.fWeek, I x.fGames.a0, I x.fGames.a1, I x.fGames.a2]) fun _ => rfl) (LkG.mk (.agg [I v53.fNumber, I v53.fBowler, I v53.fWeek, I v53.fGames.a0, I v53.fGames.a1, I v53.fGames.a2]) is36 (mgt_v (eK := (fun x : RateTurn => .agg [I x.fBowler, I x.fWeek])) (eV := (fun x : RateSheet => .agg [I x.fNumber, I x.fBowler, I x.fWeek, I x.fGames.a0, I x.fGames.a1, I x.fGames.a2])) RateTurn.eqc hx104) (mgt_b (eK := (fun x : RateTurn => .agg [I x.fBowler, I x.fWeek])) (eV := (fun x : RateSheet => .agg [I x.fNumber, I x.fBowler, I x.fWeek, I x.fGames.a0, I x.fGames.a1, I x.fGames.a2])) RateTurn.eqc hx104) ?_)));(conv=>whnf);refine nl ?_;(conv=>whnf);refine nl ?_;(conv=>whnf);refine nl ?_;(conv=>whnf)
         refine Both.mk ?_ trivial;(conv=>whnf);intro b124;(conv=>whnf);refine nl ?_;(conv=>whnf);refine nl ?_;(conv=>whnf);refine nl ?_;(conv=>whnf);refine nl ?_;(conv=>whnf);refine nl ?_;(conv=>whnf);refine nl ?_;(conv=>whnf);refine Both.mk ?_ trivial;(conv=>whnf);refine sr ?_;(conv=>whnf);refine nl ?_;cases hx103;(conv=>whnf);refine ⟨b124, trivial, Sub.eq rfl ?_ ?_⟩
         ·(repeat ((conv=>whnf);refine nr ?_));exact trivial
         ·(conv=>whnf);refine no ?_;(conv=>whnf);refine no ?_;(conv=>whnf);refine no ?_;(conv=>whnf);refine no ?_;(conv=>whnf);refine no ?_;exact trivial
        ·(conv=>whnf);refine Both.mk ?_ trivial;(conv=>whnf);intro b125;(conv=>whnf);refine sr ?_;(conv=>whnf);refine nl ?_;(conv=>whnf);refine sr ?_;(conv=>whnf);refine nl ?_;(conv=>whnf);refine nl ?_;(conv=>whnf);refine nl ?_;(conv=>whnf);refine nl ?_;(conv=>whnf);refine Both.mk ?_ trivial;(conv=>whnf)
         refine Side.mk rfl (Need.mk rfl (Need.mk (fit_all (m := m14) (fun x : RateTurn => .agg [I x.fBowler, I x.fWeek]) (fun x : RateSheet => .agg [I x.fNumber, I x.fBowler, I x.fWeek, I x.fGames.a0, I x.fGames.a1, I x.fGames.a2]) fun _ => rfl) (LkG.mk (.agg [I v53.fNumber, I v53.fBowler, I v53.fWeek, I v53.fGames.a0, I v53.fGames.a1, I v53.fGames.a2]) is36 (mgt_v (eK := (fun x : RateTurn => .agg [I x.fBowler, I x.fWeek])) (eV := (fun x : RateSheet => .agg [I x.fNumber, I x.fBowler, I x.fWeek, I x.fGames.a0, I x.fGames.a1, I x.fGames.a2])) RateTurn.eqc hx104) (mgt_b (eK := (fun x : RateTurn => .agg [I x.fBowler, I x.fWeek])) (eV := (fun x : RateSheet => .agg [I x.fNumber, I x.fBowler, I x.fWeek, I x.fGames.a0, I x.fGames.a1, I x.fGames.a2])) RateTurn.eqc hx104) ?_)));(conv=>whnf);refine nl ?_;(conv=>whnf);refine nl ?_;(conv=>whnf);refine nl ?_;(conv=>whnf);refine Both.mk ?_ trivial
         (conv=>whnf);refine sr ?_;(conv=>whnf);refine nl ?_;cases hx103;(conv=>whnf);refine ⟨b125, trivial, Sub.eq rfl ?_ ?_⟩
         ·(repeat ((conv=>whnf);refine nr ?_));exact trivial
         ·(conv=>whnf);refine no ?_;(conv=>whnf);refine no ?_;(conv=>whnf);refine no ?_;(conv=>whnf);refine no ?_;(conv=>whnf);refine no ?_;exact trivial
       ·rintro bb12 _;obtain ⟨v54, hx106, hx99⟩ := obind hx99;(conv=>whnf)
        refine SeqG.mk Unit (fun y => [(1, .d (.ref (.agg [I b1.fLaw.fBase, I b1.fLaw.fPercent, I b1.fLaw.fCap, I b1.fLaw.fLeast, I b1.fLaw.fBlind, .list 1 (List.map I b1.fBowlers), .list 6 (List.map RateSheet.enc b1.fSheets), .list 1 (List.map I b1.fWithdrawn)]))), (5, .ptr 145019 b5 0), (7, .ptr 145007 b117 0), (8, .ptr 145008 b119 0), (21, .d (.list 6 (List.map RateSheet.enc b1.fSheets))), (22, .d (I v47)), (23, .d (I v48)), (57, .d (.bool v54))]) (fun y => [(145019, .cells b5 [.d (I b1.fLaw.fBase), .d (I b1.fLaw.fPercent), .d (I b1.fLaw.fCap), .d (I b1.fLaw.fLeast), .d (I b1.fLaw.fBlind), .d (.list 1 (List.map I b1.fBowlers)), .d (.list 6 (List.map RateSheet.enc b1.fSheets)), .d (.list 1 (List.map I b1.fWithdrawn)), .mp 145017 b4]), (145007, .cells b117 [.d (I x24.fNumber), .d (I x24.fBowler), .d (I x24.fWeek), .d (I x24.fGames.a0), .d (I x24.fGames.a1), .d (I x24.fGames.a2)]), (145008, .cells b119 [.d (I x24.fBowler), .d (I x24.fWeek)]), (145017, .map b4 (List.map (fun p => (.agg [I p.1.fBowler, I p.1.fWeek], .agg [I p.2.fNumber, I p.2.fBowler, I p.2.fWeek, I p.2.fGames.a0, I p.2.fGames.a1, I p.2.fGames.a2])) m14))]) (fun _ => True) ?_ ?_
        ·(conv=>whnf);refine sr ?_;obtain ⟨r28, hx107, hx106⟩ := obind hx106;(conv=>whnf);refine CallG.pure _ (slicesContainsC hN hx107) ?_;(conv=>whnf);refine Br.mk (fun hc72 => ?_) (fun hc72 => ?_)
         ·replace hx106 := ite_t hc72 hx106;(conv=>whnf);refine Br.mk (fun hc73 => ?_) (fun hc73 => ?_)
          ·replace hx106 := ite_f hc73 hx106;(conv=>whnf);refine sr ?_;(conv=>whnf);refine sr ?_;cases hx106;(conv=>whnf);refine ⟨(), trivial, Sub.eq rfl ?_ ?_⟩
           ·(repeat ((conv=>whnf);refine nr ?_));exact trivial
           ·(conv=>whnf);refine no ?_;(conv=>whnf);refine no ?_;(conv=>whnf);refine no ?_;(conv=>whnf);refine no ?_;exact trivial
          ·replace hx106 := ite_t hc73 hx106;cases hx106;(conv=>whnf);refine ⟨(), trivial, Sub.eq rfl ?_ ?_⟩
           ·(repeat ((conv=>whnf);refine nr ?_));exact trivial
           ·(conv=>whnf);refine no ?_;(conv=>whnf);refine no ?_;(conv=>whnf);refine no ?_;(conv=>whnf);refine no ?_;exact trivial
         ·replace hx106 := ite_f hc72 hx106;cases hx106;(conv=>whnf);refine ⟨(), trivial, Sub.eq rfl ?_ ?_⟩
          ·(repeat ((conv=>whnf);refine nr ?_));exact trivial
          ·(conv=>whnf);refine no ?_;(conv=>whnf);refine no ?_;(conv=>whnf);refine no ?_;(conv=>whnf);refine no ?_;exact trivial
        ·rintro _ _;(conv=>whnf);refine Br.mk (fun hc74 => ?_) (fun hc74 => ?_)
         ·replace hx99 := ite_t hc74 hx99;(conv=>whnf);refine DrawG.mk (.take 0 (.take 1 (.take 2 (.take 3 (.take 4 (.take 5 (.alt 6 [] .done .nil))))))) (by kernel_rfl) ?_;(conv=>whnf);refine sr ?_;(conv=>whnf);refine sr ?_;(conv=>whnf);refine sr ?_;(conv=>whnf);refine Both.mk ?_ trivial;(conv=>whnf)
          refine Side.mk rfl (Need.mk rfl (Need.mk (fit_all (m := m14) (fun x : RateTurn => .agg [I x.fBowler, I x.fWeek]) (fun x : RateSheet => .agg [I x.fNumber, I x.fBowler, I x.fWeek, I x.fGames.a0, I x.fGames.a1, I x.fGames.a2]) fun _ => rfl) (MEqv.mk (List.map (fun p : RateTurn × RateSheet => (.agg [I p.1.fBowler, I p.1.fWeek], .agg [I p.2.fNumber, I p.2.fBowler, I p.2.fWeek, I p.2.fGames.a0, I p.2.fGames.a1, I p.2.fGames.a2])) (mput m14 (RateTurn.mk x24.fBowler x24.fWeek) x24)) (mput_D (eK := (fun x : RateTurn => .agg [I x.fBowler, I x.fWeek])) (eV := (fun x : RateSheet => .agg [I x.fNumber, I x.fBowler, I x.fWeek, I x.fGames.a0, I x.fGames.a1, I x.fGames.a2])) RateTurn.eqc m14 (RateTurn.mk x24.fBowler x24.fWeek) x24) ?_)));cases hx99;(conv=>whnf);refine ⟨(), trivial, Sub.eq rfl ?_ ?_⟩
          ·(repeat ((conv=>whnf);refine nr ?_));exact trivial
          ·(conv=>whnf);refine no ?_;(conv=>whnf);refine no ?_;exact trivial
         ·replace hx99 := ite_f hc74 hx99;cases hx99;(conv=>whnf);refine ⟨(), trivial, Sub.eq rfl ?_ ?_⟩
          ·(repeat ((conv=>whnf);refine nr ?_));exact trivial
          ·(conv=>whnf);refine no ?_;(conv=>whnf);refine no ?_;exact trivial
      ·rintro _ _;(conv=>whnf);refine ⟨(n2, (v47, w64 (v48 + 1), m15)), hl2, Sub.eq rfl ?_ ?_, Nat.lt_succ_self _⟩
       ·(repeat ((conv=>whnf);refine nr ?_));exact trivial
       ·(conv=>whnf);refine no ?_;(conv=>whnf);refine no ?_;exact trivial
     ·replace hl2 := ite_f hc64 hl2;cases hl2;(conv=>whnf);refine ⟨(), trivial, Sub.eq rfl ?_ ?_⟩
      ·(repeat ((conv=>whnf);refine nr ?_));exact trivial
      ·(conv=>whnf);refine no ?_;(conv=>whnf);refine no ?_;exact trivial
   ·rintro _ _;(conv=>whnf);cases h;exact ⟨_, ⟨(b5, b4), trivial, rfl, rfl⟩, inO_at (ren := id) (And.intro rfl (And.intro rfl trivial))⟩
theorem slicesGrowC {N : Nat} (hN : N ≤ 1073741824) {n1 : Int} {r : (List Int)} (h : slicesGrow N n1 = some r) :
    ACalls Tryz.prog 99 [.nils 1, .d (I n1)] [] fun e os => ∃ hd, e = .ret (.sl 0 hd) ∧ os = [(0, .arr hd 3 1 false (List.map I r))] := by
  refine acalls_fr tt_ok dr_ok ⟨[], [], [], [25], [1003], 0, []⟩ Tryz.func99 rfl Tryz.call99 rfl ?_
  unfold slicesGrow at h
  (conv=>whnf);refine Br.mk (fun hc2 => ?_) (fun hc2 => ?_)
  ·replace h := ite_t hc2 h;cases h
  ·replace h := ite_f hc2 h;obtain ⟨l3, hx3, h⟩ := obind h;(conv=>whnf);refine SeqG.mk Value (fun y => [(0, .sl 22 y)]) (fun y => [(22, .arr y 3 1 false (List.map I l3))]) (fun _ => True) ?_ ?_
   ·(conv=>whnf);refine Br.mk (fun hc4 => ?_) (fun hc4 => ?_)
    ·replace hx3 := ite_t hc4 hx3;(conv=>whnf);refine Need.mk (by decide) ?_;obtain ⟨l4, hx4, hx3⟩ := obind hx3;(conv=>whnf);refine Need.mk (mklp_need hN hx4 (by decide)) (Eqv.mk (List.map I l4) (mklp_map _ hx4 rfl) ?_);(conv=>whnf);intro hd4;obtain ⟨l5, hx5, hx3⟩ := obind hx3;(conv=>whnf);refine Side.mk rfl (Need.mk (slc_need0 _ hx5) (Eqv.mk (List.map I l5) (slc_map0 _ hx5) ?_));(conv=>whnf);intro hd5;cases hx3;(conv=>whnf);refine ⟨hd5, trivial, Sub.eq rfl ?_ ?_⟩
     ·(repeat ((conv=>whnf);refine nr ?_));exact trivial
     ·(conv=>whnf);refine no ?_;exact trivial
    ·replace hx3 := ite_f hc4 hx3;cases hx3;(conv=>whnf);refine ⟨(.slice none 0 0), trivial, Sub.eq rfl ?_ ?_⟩
     ·(repeat ((conv=>whnf);refine nr ?_));exact trivial
     ·(conv=>whnf);refine Need.mk (OLe.nil _ _ _ _) ?_;exact trivial
   ·rintro hd3 _;(conv=>whnf);cases h;exact ⟨_, _, rfl, rfl⟩
theorem slicesConcatC {N : Nat} (hN : N ≤ 1073741824) {slices1 : List (List Int)} {r : (List Int)} (h : slicesConcat N slices1 = some r) :
    ACalls Tryz.prog 61 [.d (.list 1 (List.map (fun x => .list 1 (List.map I x)) slices1))] [] fun e os => ∃ hd, e = .ret (.sl 0 hd) ∧ os = [(0, .arr hd 3 1 false (List.map I r))] := by
  refine acalls_fr tt_ok dr_ok ⟨[], [], [24], [], [1002, 1010], 0, []⟩ Tryz.func61 rfl Tryz.call61 rfl ?_
  unfold slicesConcat at h
  obtain ⟨size5, hx13, h⟩ := obind h;(conv=>whnf);refine SeqG.mk Unit (fun y => [(0, .d (.list 1 (List.map (fun x => .list 1 (List.map I x)) slices1))), (3, .d (I size5))]) (fun y => []) (fun _ => True) ?_ ?_
  ·(conv=>whnf);refine LnA.mk _ (List.length_map _) ?_;(conv=>whnf);refine LoopG.mk (Nat × (Int × Int × Int)) (fun y => [(0, .d (.list 1 (List.map (fun x => .list 1 (List.map I x)) slices1))), (3, .d (I y.2.1)), (9, .d (.list 1 (List.map (fun x => .list 1 (List.map I x)) slices1))), (10, .d (I y.2.2.1)), (11, .d (I y.2.2.2))]) (fun y => []) (fun y => loopN (fun rr x => slicesConcat_b1 N slices1 rr x.1 x.2.1 x.2.2) y.1 y.2 = some size5) (fun y => y.1) (N, (0, (slices1.length : Int), 0)) hx13 (Sub.eq rfl ?_ ?_) ?_
   ·(repeat ((conv=>whnf);refine nr ?_));exact trivial
   ·exact trivial
   ·rintro ⟨n2, ⟨size9, v17, v18⟩⟩ hl2;obtain ⟨n2, rfl, hl2⟩ := loopN_some hl2;replace hl2 : slicesConcat_b1 N slices1 (loopN (fun rr x => slicesConcat_b1 N slices1 rr x.1 x.2.1 x.2.2) n2) size9 v17 v18 = some size5 := hl2;rw [slicesConcat_b1] at hl2;(conv=>whnf);refine Br.mk (fun hc22 => ?_) (fun hc22 => ?_)
    ·replace hl2 := ite_t hc22 hl2;obtain ⟨x24, hx25, hl2⟩ := obind hl2;(conv=>whnf);refine Side.mk rfl ⟨_, idx_0 hx25, idx_map _ hx25, ?_⟩;(conv=>whnf);refine LnA.mk _ (List.length_map _) ?_;(conv=>whnf);refine Br.mk (fun hc24 => ?_) (fun hc24 => ?_)
     ·replace hl2 := ite_t hc24 hl2;cases hl2
     ·replace hl2 := ite_f hc24 hl2;(conv=>whnf);refine ⟨(n2, (w64 (size9 + (x24.length : Int)), v17, w64 (v18 + 1))), hl2, Sub.eq rfl ?_ ?_, Nat.lt_succ_self _⟩
      ·(repeat ((conv=>whnf);refine nr ?_));exact trivial
      ·exact trivial
    ·replace hl2 := ite_f hc22 hl2;cases hl2;(conv=>whnf);refine ⟨(), trivial, Sub.eq rfl ?_ ?_⟩
     ·(repeat ((conv=>whnf);refine nr ?_));exact trivial
     ·exact trivial
  ·rintro _ _;obtain ⟨r2, hx27, h⟩ := obind h;(conv=>whnf);refine CallG.fresh 24 (slicesGrowC hN hx27) ?_;intro hd2;obtain ⟨l11, hx46, h⟩ := obind h;(conv=>whnf);refine SeqG.mk Value (fun y => [(6, .sl 24 y)]) (fun y => [(24, .arr y 3 1 false (List.map I l11))]) (fun _ => True) ?_ ?_
   ·(conv=>whnf);refine LnA.mk _ (List.length_map _) ?_;(conv=>whnf);refine LoopG.mk (Nat × (Int × Int × (List Int)) × Value) (fun y => [(6, .sl 24 y.2.2), (25, .d (.list 1 (List.map (fun x => .list 1 (List.map I x)) slices1))), (26, .d (I y.2.1.1)), (27, .d (I y.2.1.2.1))]) (fun y => [(24, .arr y.2.2 3 1 false (List.map I y.2.1.2.2))]) (fun y => loopN (fun rr x => slicesConcat_b2 N slices1 rr x.1 x.2.1 x.2.2) y.1 y.2.1 = some l11) (fun y => y.1) (N, ((slices1.length : Int), 0, r2), hd2) hx46 (Sub.eq rfl ?_ ?_) ?_
    ·(repeat ((conv=>whnf);refine nr ?_));exact trivial
    ·(conv=>whnf);refine no ?_;exact trivial
    ·rintro ⟨n4, ⟨v35, v36, l19⟩, hd21⟩ hl4;obtain ⟨n4, rfl, hl4⟩ := loopN_some hl4;replace hl4 : slicesConcat_b2 N slices1 (loopN (fun rr x => slicesConcat_b2 N slices1 rr x.1 x.2.1 x.2.2) n4) v35 v36 l19 = some l11 := hl4;rw [slicesConcat_b2] at hl4;(conv=>whnf);refine Br.mk (fun hc36 => ?_) (fun hc36 => ?_)
     ·replace hl4 := ite_t hc36 hl4;obtain ⟨x48, hx63, hl4⟩ := obind hl4;(conv=>whnf);refine Side.mk rfl ⟨_, idx_0 hx63, idx_map _ hx63, ?_⟩;obtain ⟨l21, hx64, hl4⟩ := obind hl4;(conv=>whnf);refine sr ?_;(conv=>whnf);refine Side.mk ⟨rfl, rfl, rfl⟩ (Need.mk (app_need hN hx64 (by decide)) (Eqv.mk (List.map I l21) (app_map _ hx64) ?_));(conv=>whnf);intro hd23;(conv=>whnf);refine ⟨(n4, (v35, w64 (v36 + 1), l21), hd23), hl4, Sub.eq rfl ?_ ?_, Nat.lt_succ_self _⟩
      ·(repeat ((conv=>whnf);refine nr ?_));exact trivial
      ·(conv=>whnf);refine no ?_;exact trivial
     ·replace hl4 := ite_f hc36 hl4;cases hl4;(conv=>whnf);refine ⟨hd21, trivial, Sub.eq rfl ?_ ?_⟩
      ·(repeat ((conv=>whnf);refine nr ?_));exact trivial
      ·(conv=>whnf);refine no ?_;exact trivial
   ·rintro hd13 _;(conv=>whnf);cases h;exact ⟨_, _, rfl, rfl⟩
theorem rateAll1XXXC {N : Nat} (hN : N ≤ 1073741824) {x1 : Int} {a1 : RateBook} {r : Bool} (h : rateAll1XXX N x1 a1 = some r) :
    ACalls Tryz.prog 101 [.d (I x1), .d (.ref (.agg [.fn (.func 62) [.agg [I a1.fLaw.fBase, I a1.fLaw.fPercent, I a1.fLaw.fCap, I a1.fLaw.fLeast, I a1.fLaw.fBlind, .list 1 (List.map I a1.fBowlers), .list 6 (List.map RateSheet.enc a1.fSheets), .list 1 (List.map I a1.fWithdrawn)]] []]))] [] fun e os => e = .ret (.d (.bool r)) ∧ os = [] := by
  refine acalls_f (fresh := false) tt_ok dr_ok ⟨[], [], [], [], [], 0, []⟩ Tryz.func101 rfl Tryz.call101 rfl ?_
  unfold rateAll1XXX at h
  obtain ⟨r2, hx2, h⟩ := obind h;(conv=>whnf);refine CallG.pure _ (rateBookBowlerC hN hx2) ?_;(conv=>whnf);cases h;exact rfl
theorem slicesIndexFuncXXXC {N : Nat} (hN : N ≤ 1073741824) {f1 : RateBook} {l1 : List Int} {ho1 : Value} {r : Int} (h : slicesIndexFuncXXX N f1 l1 = some r) :
    ACalls Tryz.prog 127 [.sl 20 ho1, .d (.fn (.func 101) [] [.ref (.agg [.fn (.func 62) [.agg [I f1.fLaw.fBase, I f1.fLaw.fPercent, I f1.fLaw.fCap, I f1.fLaw.fLeast, I f1.fLaw.fBlind, .list 1 (List.map I f1.fBowlers), .list 6 (List.map RateSheet.enc f1.fSheets), .list 1 (List.map I f1.fWithdrawn)]] []])])] [(20, .arr ho1 3 1 false (List.map I l1))] fun ae os => ∃ y : Unit, True ∧ ae = .ret (.d (I r)) ∧ os = [(20, .arr ho1 3 1 false (List.map I l1))] := by
  refine acalls_own (fresh := false) tt_ok dr_ok ⟨[], [], [], [], [1001], 10000, []⟩ Tryz.func127 rfl Tryz.call127 rfl ?_
  unfold slicesIndexFuncXXX at h
  (conv=>whnf);refine SeqG.mk Unit (fun y => []) (fun y => [(20, .arr ho1 3 1 false (List.map I l1))]) (fun y => slicesIndexFuncXXX_k1 N = some r) ?_ ?_
  ·(conv=>whnf);refine Side.mk rfl (LnA.mk _ (List.length_map _) ?_);(conv=>whnf);refine LoopG.mk (Nat × (Int × Int)) (fun y => [(0, .sl 20 ho1), (1, .d (.fn (.func 101) [] [.ref (.agg [.fn (.func 62) [.agg [I f1.fLaw.fBase, I f1.fLaw.fPercent, I f1.fLaw.fCap, I f1.fLaw.fLeast, I f1.fLaw.fBlind, .list 1 (List.map I f1.fBowlers), .list 6 (List.map RateSheet.enc f1.fSheets), .list 1 (List.map I f1.fWithdrawn)]] []])])), (7, .d (I y.2.1)), (8, .d (I y.2.2))]) (fun y => [(20, .arr ho1 3 1 false (List.map I l1))]) (fun y => loopN (fun rr x => slicesIndexFuncXXX_b2 N f1 l1 rr x.1 x.2) y.1 y.2 = some r) (fun y => y.1) (N, ((l1.length : Int), 0)) h (Sub.eq rfl ?_ ?_) ?_
   ·(repeat ((conv=>whnf);refine nr ?_));exact trivial
   ·(conv=>whnf);refine no ?_;exact trivial
   ·rintro ⟨n2, ⟨v17, v18⟩⟩ hl2;obtain ⟨n2, rfl, hl2⟩ := loopN_some hl2;replace hl2 : slicesIndexFuncXXX_b2 N f1 l1 (loopN (fun rr x => slicesIndexFuncXXX_b2 N f1 l1 rr x.1 x.2) n2) v17 v18 = some r := hl2;rw [slicesIndexFuncXXX_b2] at hl2;(conv=>whnf);refine Br.mk (fun hc22 => ?_) (fun hc22 => ?_)
    ·replace hl2 := ite_t hc22 hl2;obtain ⟨x24, hx47, hl2⟩ := obind hl2;(conv=>whnf);refine Side.mk ⟨rfl, rfl⟩ (Need.mk (idx_need _ hx47) ?_);(conv=>whnf);refine Side.mk ⟨rfl, rfl⟩ ⟨_, Int.natCast_nonneg _, idx_el _ hx47, ?_⟩;obtain ⟨r24, hx48, hl2⟩ := obind hl2;(conv=>whnf);refine CallG.pure _ (rateAll1XXXC hN hx48) ?_;(conv=>whnf);refine Br.mk (fun hc24 => ?_) (fun hc24 => ?_)
     ·replace hl2 := ite_t hc24 hl2;(conv=>whnf);cases hl2;exact ⟨(), trivial, rfl, inO_at (ren := id) (And.intro rfl trivial)⟩
     ·replace hl2 := ite_f hc24 hl2;(conv=>whnf);refine ⟨(n2, (v17, w64 (v18 + 1))), hl2, Sub.eq rfl ?_ ?_, Nat.lt_succ_self _⟩
      ·(repeat ((conv=>whnf);refine nr ?_));exact trivial
      ·(conv=>whnf);refine no ?_;exact trivial
    ·replace hl2 := ite_f hc22 hl2;(conv=>whnf);refine ⟨(), hl2, Sub.eq rfl ?_ ?_⟩
     ·(repeat ((conv=>whnf);refine nr ?_));exact trivial
     ·(conv=>whnf);refine no ?_;exact trivial
  ·clear h;rintro _ h;unfold slicesIndexFuncXXX_k1 at h;(conv=>whnf);cases h;exact ⟨(), trivial, rfl, inO_at (ren := id) (And.intro rfl trivial)⟩
theorem slicesContainsFuncXXXC {N : Nat} (hN : N ≤ 1073741824) {f1 : RateBook} {l1 : List Int} {ho1 : Value} {r : Bool} (h : slicesContainsFuncXXX N f1 l1 = some r) :
    ACalls Tryz.prog 100 [.sl 20 ho1, .d (.fn (.func 101) [] [.ref (.agg [.fn (.func 62) [.agg [I f1.fLaw.fBase, I f1.fLaw.fPercent, I f1.fLaw.fCap, I f1.fLaw.fLeast, I f1.fLaw.fBlind, .list 1 (List.map I f1.fBowlers), .list 6 (List.map RateSheet.enc f1.fSheets), .list 1 (List.map I f1.fWithdrawn)]] []])])] [(20, .arr ho1 3 1 false (List.map I l1))] fun ae os => ∃ y : Unit, True ∧ ae = .ret (.d (.bool r)) ∧ os = [(20, .arr ho1 3 1 false (List.map I l1))] := by
  refine acalls_own (fresh := false) tt_ok dr_ok ⟨[], [], [7], [], [], 10000, []⟩ Tryz.func100 rfl Tryz.call100 rfl ?_
  unfold slicesContainsFuncXXX at h
  obtain ⟨r2, hx2, h⟩ := obind h;(conv=>whnf);refine CallG.own (slicesIndexFuncXXXC (ho1 := ho1) hN hx2) id [] _ (fun y => [(20, .arr ho1 3 1 false (List.map I l1))]) (all2_le_refl _) (And.intro rfl trivial) rfl (And.intro rfl trivial) trivial (fun _ => AV.le_refl _) (fun _ => rfl) ?_;rintro _ _;(conv=>whnf);cases h;exact ⟨(), trivial, rfl, inO_at (ren := id) (And.intro rfl trivial)⟩
theorem rateAllXXXC {N : Nat} (hN : N ≤ 1073741824) {right1 : RateBook} {l1 : List Int} {ho1 : Value} {r : Bool} (h : rateAllXXX N right1 l1 = some r) :
    ACalls Tryz.prog 63 [.sl 20 ho1, .d (.fn (.func 62) [.agg [I right1.fLaw.fBase, I right1.fLaw.fPercent, I right1.fLaw.fCap, I right1.fLaw.fLeast, I right1.fLaw.fBlind, .list 1 (List.map I right1.fBowlers), .list 6 (List.map RateSheet.enc right1.fSheets), .list 1 (List.map I right1.fWithdrawn)]] [])] [(20, .arr ho1 3 1 false (List.map I l1))] fun ae os => ∃ y : Unit, True ∧ ae = .ret (.d (.bool r)) ∧ os = [(20, .arr ho1 3 1 false (List.map I l1))] := by
  refine acalls_own (fresh := false) tt_ok dr_ok ⟨[3], [], [7], [], [], 10000, []⟩ Tryz.func63 rfl Tryz.call63 rfl ?_
  unfold rateAllXXX at h
  obtain ⟨r2, hx2, h⟩ := obind h;(conv=>whnf);refine CallG.own (slicesContainsFuncXXXC (ho1 := ho1) hN hx2) id [] _ (fun y => [(20, .arr ho1 3 1 false (List.map I l1))]) (all2_le_refl _) (And.intro rfl trivial) rfl (And.intro rfl trivial) trivial (fun _ => AV.le_refl _) (fun _ => rfl) ?_;rintro _ _;(conv=>whnf);cases h;exact ⟨(), trivial, rfl, inO_at (ren := id) (And.intro rfl trivial)⟩
theorem rateRisingXC {N : Nat} (hN : N ≤ 1073741824) {l1 : List Int} {ho1 : Value} {r : Bool} (h : rateRisingX N l1 = some r) :
    ACalls Tryz.prog 65 [.sl 20 ho1] [(20, .arr ho1 3 1 false (List.map I l1))] fun ae os => ∃ y : Unit, True ∧ ae = .ret (.d (.bool r)) ∧ os = [(20, .arr ho1 3 1 false (List.map I l1))] := by
  refine acalls_own (fresh := false) tt_ok dr_ok ⟨[], [], [], [], [4, 1001], 10000, []⟩ Tryz.func65 rfl Tryz.call65 rfl ?_
  unfold rateRisingX at h
  (conv=>whnf);refine SeqG.mk Unit (fun y => []) (fun y => [(20, .arr ho1 3 1 false (List.map I l1))]) (fun y => rateRisingX_k1 N = some r) ?_ ?_
  ·(conv=>whnf);refine Side.mk rfl (LnA.mk _ (List.length_map _) ?_);(conv=>whnf);refine LoopG.mk (Nat × (Int × Int)) (fun y => [(0, .sl 20 ho1), (5, .d (I y.2.1)), (6, .d (I y.2.2))]) (fun y => [(20, .arr ho1 3 1 false (List.map I l1))]) (fun y => loopN (fun rr x => rateRisingX_b2 N l1 rr x.1 x.2) y.1 y.2 = some r) (fun y => y.1) (N, ((l1.length : Int), 0)) h (Sub.eq rfl ?_ ?_) ?_
   ·(repeat ((conv=>whnf);refine nr ?_));exact trivial
   ·(conv=>whnf);refine no ?_;exact trivial
   ·rintro ⟨n2, ⟨v23, v24⟩⟩ hl2;obtain ⟨n2, rfl, hl2⟩ := loopN_some hl2;replace hl2 : rateRisingX_b2 N l1 (loopN (fun rr x => rateRisingX_b2 N l1 rr x.1 x.2) n2) v23 v24 = some r := hl2;rw [rateRisingX_b2] at hl2;(conv=>whnf);refine Br.mk (fun hc30 => ?_) (fun hc30 => ?_)
    ·replace hl2 := ite_t hc30 hl2;obtain ⟨v26, hx42, hl2⟩ := obind hl2;(conv=>whnf);refine SeqG.mk Unit (fun y => [(0, .sl 20 ho1), (5, .d (I v23)), (6, .d (I v24)), (22, .d (.bool v26))]) (fun y => [(20, .arr ho1 3 1 false (List.map I l1))]) (fun _ => True) ?_ ?_
     ·(conv=>whnf);refine DrawG.mk (.take 0 (.take 1 (.take 2 (.spl 11 (.take 3 (.take 4 (.take 5 (.take 6 (.take 7 (.take 8 (.take 9 (.take 10 (.take 11 (.take 12 (.take 13 .done))))))))))))))) (by kernel_rfl) ?_;(conv=>whnf);refine Br.mk (fun hc35 => ?_) (fun hc35 => ?_)
      ·replace hx42 := ite_t hc35 hx42;obtain ⟨x31, hx43, hx42⟩ := obind hx42;obtain ⟨x32, hx44, hx42⟩ := obind hx42;(conv=>whnf);refine Side.mk ⟨rfl, rfl⟩ (Need.mk (idx_need _ hx43) ?_);(conv=>whnf);refine Side.mk ⟨rfl, rfl⟩ ⟨_, Int.natCast_nonneg _, idx_el _ hx43, ?_⟩;(conv=>whnf);refine Side.mk ⟨rfl, rfl⟩ (Need.mk (idx_need _ hx44) ?_);(conv=>whnf);refine Side.mk ⟨rfl, rfl⟩ ⟨_, Int.natCast_nonneg _, idx_el _ hx44, ?_⟩;cases hx42;(conv=>whnf);refine ⟨(), trivial, Sub.eq rfl ?_ ?_⟩
       ·(repeat ((conv=>whnf);refine nr ?_));exact trivial
       ·(conv=>whnf);refine no ?_;exact trivial
      ·replace hx42 := ite_f hc35 hx42;cases hx42;(conv=>whnf);refine ⟨(), trivial, Sub.eq rfl ?_ ?_⟩
       ·(repeat ((conv=>whnf);refine nr ?_));exact trivial
       ·(conv=>whnf);refine no ?_;exact trivial
     ·rintro _ _;(conv=>whnf);refine Br.mk (fun hc36 => ?_) (fun hc36 => ?_)
      ·replace hl2 := ite_t hc36 hl2;(conv=>whnf);cases hl2;exact ⟨(), trivial, rfl, inO_at (ren := id) (And.intro rfl trivial)⟩
      ·replace hl2 := ite_f hc36 hl2;(conv=>whnf);refine ⟨(n2, (v23, w64 (v24 + 1))), hl2, Sub.eq rfl ?_ ?_, Nat.lt_succ_self _⟩
       ·(repeat ((conv=>whnf);refine nr ?_));exact trivial
       ·(conv=>whnf);refine no ?_;exact trivial
    ·replace hl2 := ite_f hc30 hl2;(conv=>whnf);refine ⟨(), hl2, Sub.eq rfl ?_ ?_⟩
     ·(repeat ((conv=>whnf);refine nr ?_));exact trivial
     ·(conv=>whnf);refine no ?_;exact trivial
  ·clear h;rintro _ h;unfold rateRisingX_k1 at h;(conv=>whnf);cases h;exact ⟨(), trivial, rfl, inO_at (ren := id) (And.intro rfl trivial)⟩
theorem rateBookTeamsC {N : Nat} (hN : N ≤ 1073741824) {b1 : RateBook} {home1 : List Int} {away1 : List Int} {r : Int} (h : rateBookTeams N b1 home1 away1 = some r) :
    ACalls Tryz.prog 30 [.d (.agg [I b1.fLaw.fBase, I b1.fLaw.fPercent, I b1.fLaw.fCap, I b1.fLaw.fLeast, I b1.fLaw.fBlind, .list 1 (List.map I b1.fBowlers), .list 6 (List.map RateSheet.enc b1.fSheets), .list 1 (List.map I b1.fWithdrawn)]), .d (.list 1 (List.map I home1)), .d (.list 1 (List.map I away1))] [] fun e os => e = .ret (.d (I r)) ∧ os = [] := by
  refine acalls_f (fresh := false) tt_ok dr_ok ⟨[3], [], [34, 38, 40], [], [1, 5], 0, []⟩ Tryz.func30 rfl Tryz.call30 rfl ?_
  unfold rateBookTeams at h
  obtain ⟨v2, hx2, h⟩ := obind h;(conv=>whnf);refine SeqG.mk Unit (fun y => [(1, .d (.list 1 (List.map I home1))), (2, .d (.list 1 (List.map I away1))), (3, .d (.ref (.agg [I b1.fLaw.fBase, I b1.fLaw.fPercent, I b1.fLaw.fCap, I b1.fLaw.fLeast, I b1.fLaw.fBlind, .list 1 (List.map I b1.fBowlers), .list 6 (List.map RateSheet.enc b1.fSheets), .list 1 (List.map I b1.fWithdrawn)]))), (16, .d (.bool v2))]) (fun y => []) (fun _ => True) ?_ ?_
  ·(conv=>whnf);refine LnA.mk _ (List.length_map _) ?_;(conv=>whnf);refine Br.mk (fun hc5 => ?_) (fun hc5 => ?_)
   ·replace hx2 := ite_f hc5 hx2;(conv=>whnf);refine LnA.mk _ (List.length_map _) ?_;cases hx2;(conv=>whnf);refine ⟨(), trivial, Sub.eq rfl ?_ ?_⟩
    ·(repeat ((conv=>whnf);refine nr ?_));exact trivial
    ·exact trivial
   ·replace hx2 := ite_t hc5 hx2;cases hx2;(conv=>whnf);refine ⟨(), trivial, Sub.eq rfl ?_ ?_⟩
    ·(repeat ((conv=>whnf);refine nr ?_));exact trivial
    ·exact trivial
  ·rintro _ _;(conv=>whnf);refine Br.mk (fun hc6 => ?_) (fun hc6 => ?_)
   ·replace h := ite_t hc6 h;(conv=>whnf);cases h;exact rfl
   ·replace h := ite_f hc6 h;(conv=>whnf);intro hd3;obtain ⟨r2, hx4, h⟩ := obind h;(conv=>whnf);refine sr ?_;(conv=>whnf);refine CallG.fresh 20 (slicesConcatC hN hx4) ?_;intro hd4;obtain ⟨v4, hx9, h⟩ := obind h;(conv=>whnf);refine SeqG.mk Unit (fun y => [(7, .sl 20 hd4), (36, .d (.bool v4))]) (fun y => [(20, .arr hd4 3 1 false (List.map I r2))]) (fun _ => True) ?_ ?_
    ·(conv=>whnf);refine LnA.mk _ (List.length_map _) ?_;(conv=>whnf);refine Br.mk (fun hc14 => ?_) (fun hc14 => ?_)
     ·replace hx9 := ite_f hc14 hx9;(conv=>whnf);refine LnA.mk _ (List.length_map _) ?_;(conv=>whnf);refine Br.mk (fun hc15 => ?_) (fun hc15 => ?_)
      ·replace hx9 := ite_f hc15 hx9;obtain ⟨r6, hx10, hx9⟩ := obind hx9;(conv=>whnf);refine CallG.own (rateAllXXXC (ho1 := hd4) hN hx10) id [(19, .arr hd3 24 1 true (List.map (fun x => .list 1 (List.map I x)) ([home1, away1])))] _ (fun y => [(20, .arr hd4 3 1 false (List.map I r2)), (19, .arr hd3 24 1 true (List.map (fun x => .list 1 (List.map I x)) ([home1, away1])))]) (all2_le_refl _) (And.intro rfl trivial) rfl (And.intro rfl trivial) (And.intro rfl trivial) (fun _ => AV.le_refl _) (fun _ => rfl) ?_;rintro _ _;cases hx9;(conv=>whnf);refine ⟨(), trivial, Sub.eq rfl ?_ ?_⟩
       ·(repeat ((conv=>whnf);refine nr ?_));exact trivial
       ·(conv=>whnf);refine no ?_;exact trivial
      ·replace hx9 := ite_t hc15 hx9;cases hx9;(conv=>whnf);refine ⟨(), trivial, Sub.eq rfl ?_ ?_⟩
       ·(repeat ((conv=>whnf);refine nr ?_));exact trivial
       ·(conv=>whnf);refine no ?_;exact trivial
     ·replace hx9 := ite_t hc14 hx9;cases hx9;(conv=>whnf);refine ⟨(), trivial, Sub.eq rfl ?_ ?_⟩
      ·(repeat ((conv=>whnf);refine nr ?_));exact trivial
      ·(conv=>whnf);refine no ?_;exact trivial
    ·rintro _ _;(conv=>whnf);refine Br.mk (fun hc16 => ?_) (fun hc16 => ?_)
     ·replace h := ite_t hc16 h;(conv=>whnf);cases h;exact rfl
     ·replace h := ite_f hc16 h;obtain ⟨r8, hx12, h⟩ := obind h;(conv=>whnf);refine CallG.own (sortIC (k := 20) (ho := hd4) hN hx12) id [] _ (fun y => [(20, .arr hd4 3 1 false (List.map I r8))]) (all2_le_refl _) (And.intro rfl trivial) rfl (And.intro rfl trivial) trivial (fun _ => AV.le_refl _) (fun _ => rfl) ?_;rintro _ _;obtain ⟨r12, hx16, h⟩ := obind h;(conv=>whnf);refine CallG.own (rateRisingXC (ho1 := hd4) hN hx16) id [] _ (fun y => [(20, .arr hd4 3 1 false (List.map I r8))]) (all2_le_refl _) (And.intro rfl trivial) rfl (And.intro rfl trivial) trivial (fun _ => AV.le_refl _) (fun _ => rfl) ?_;rintro _ _;(conv=>whnf);refine Br.mk (fun hc18 => ?_) (fun hc18 => ?_)
      ·replace h := ite_t hc18 h;(conv=>whnf);cases h;exact rfl
      ·replace h := ite_f hc18 h;(conv=>whnf);cases h;exact rfl
theorem rateSumC {N : Nat} (hN : N ≤ 1073741824) {l1 : List Int} {r : Int} (h : rateSum N l1 = some r) :
    ACalls Tryz.prog 33 [.d (.list 1 (List.map I l1))] [] fun e os => e = .ret (.d (I r)) ∧ os = [] := by
  refine acalls_f (fresh := false) tt_ok dr_ok ⟨[], [], [], [], [1001], 0, []⟩ Tryz.func33 rfl Tryz.call33 rfl ?_
  unfold rateSum at h
  obtain ⟨n6, hx13, h⟩ := obind h;(conv=>whnf);refine SeqG.mk Unit (fun y => [(2, .d (I n6))]) (fun y => []) (fun _ => True) ?_ ?_
  ·(conv=>whnf);refine LnA.mk _ (List.length_map _) ?_;(conv=>whnf);refine LoopG.mk (Nat × (Int × Int × Int)) (fun y => [(2, .d (I y.2.1)), (5, .d (.list 1 (List.map I l1))), (6, .d (I y.2.2.1)), (7, .d (I y.2.2.2))]) (fun y => []) (fun y => loopN (fun rr x => rateSum_b1 N l1 rr x.1 x.2.1 x.2.2) y.1 y.2 = some n6) (fun y => y.1) (N, (0, (l1.length : Int), 0)) hx13 (Sub.eq rfl ?_ ?_) ?_
   ·(repeat ((conv=>whnf);refine nr ?_));exact trivial
   ·exact trivial
   ·rintro ⟨n11, ⟨n10, v17, v18⟩⟩ hl2;obtain ⟨n11, rfl, hl2⟩ := loopN_some hl2;replace hl2 : rateSum_b1 N l1 (loopN (fun rr x => rateSum_b1 N l1 rr x.1 x.2.1 x.2.2) n11) n10 v17 v18 = some n6 := hl2;rw [rateSum_b1] at hl2;(conv=>whnf);refine Br.mk (fun hc12 => ?_) (fun hc12 => ?_)
    ·replace hl2 := ite_t hc12 hl2;obtain ⟨x24, hx25, hl2⟩ := obind hl2;(conv=>whnf);refine Side.mk rfl ⟨_, idx_0 hx25, idx_map _ hx25, ?_⟩;(conv=>whnf);refine ⟨(n11, (w64 (n10 + x24), v17, w64 (v18 + 1))), hl2, Sub.eq rfl ?_ ?_, Nat.lt_succ_self _⟩
     ·(repeat ((conv=>whnf);refine nr ?_));exact trivial
     ·exact trivial
    ·replace hl2 := ite_f hc12 hl2;cases hl2;(conv=>whnf);refine ⟨(), trivial, Sub.eq rfl ?_ ?_⟩
     ·(repeat ((conv=>whnf);refine nr ?_));exact trivial
     ·exact trivial
  ·rintro _ _;(conv=>whnf);cases h;exact rfl
theorem rateMatch1C {N : Nat} (hN : N ≤ 1073741824) {team1 : List Int} {a1 : Int} {bo1 : Nat} {r : (List Int)} (h : rateMatch1 N team1 a1 = some r) :
    ACalls Tryz.prog 31 [.d (.list 1 (List.map I team1)), .ptr 11 bo1 0, .d (.ref (.agg [I a1]))] [(11, .cells bo1 [.d .nilptr])] fun ae os => ∃ y : Unit, True ∧ ae = .ret (.d (.list 1 (List.map I r))) ∧ os = [(11, .cells bo1 [.d .nilptr])] := by
  refine acalls_own (fresh := false) tt_ok dr_ok ⟨[], [], [], [], [1002], 10000, []⟩ Tryz.func31 rfl Tryz.call31 rfl ?_
  unfold rateMatch1 at h
  obtain ⟨l2, hx2, h⟩ := obind h;(conv=>whnf);refine Need.mk (mkl_need hN hx2 (by decide)) (Eqv.mk (List.map I l2) (mkl_map _ hx2 rfl) ?_);(conv=>whnf);intro hd2;obtain ⟨_, hx15, h⟩ := obind h;(conv=>whnf);refine SeqG.mk Unit (fun y => [(4, .sl 10009 hd2)]) (fun y => [(10009, .arr hd2 3 1 false (List.map I l2)), (11, .cells bo1 [.d .nilptr])]) (fun _ => True) ?_ ?_
  ·(conv=>whnf);refine LnA.mk _ (List.length_map _) ?_;(conv=>whnf);refine LoopG.mk (Nat × Int) (fun y => [(1, .ptr 11 bo1 0), (2, .d (.ref (.agg [I a1]))), (4, .sl 10009 hd2), (10, .d (.list 1 (List.map I team1))), (11, .d (I y.2)), (12, .i .i64 0)]) (fun y => [(11, .cells bo1 [.d .nilptr]), (10009, .arr hd2 3 1 false (List.map I l2))]) (fun y => loopN (fun rr x => rateMatch1_b1 N team1 rr x) y.1 y.2 = some ()) (fun y => y.1) (N, (team1.length : Int)) hx15 (Sub.eq rfl ?_ ?_) ?_
   ·(repeat ((conv=>whnf);refine nr ?_));exact trivial
   ·(conv=>whnf);refine no ?_;(conv=>whnf);refine no ?_;exact trivial
   ·rintro ⟨n2, v10⟩ hl2;obtain ⟨n2, rfl, hl2⟩ := loopN_some hl2;replace hl2 : rateMatch1_b1 N team1 (loopN (fun rr x => rateMatch1_b1 N team1 rr x) n2) v10 = some () := hl2;rw [rateMatch1_b1] at hl2;(conv=>whnf);refine Br.mk (fun hc12 => ?_) (fun hc12 => ?_)
    ·replace hl2 := ite_t hc12 hl2;obtain ⟨x24, hx27, hl2⟩ := obind hl2;(conv=>whnf);refine Side.mk rfl ⟨_, idx_0 hx27, idx_map _ hx27, ?_⟩;(conv=>whnf);refine sr ?_;cases hl2
    ·replace hl2 := ite_f hc12 hl2;(conv=>whnf);refine ⟨(), trivial, Sub.eq rfl ?_ ?_⟩
     ·(repeat ((conv=>whnf);refine nr ?_));exact trivial
     ·(conv=>whnf);refine no ?_;(conv=>whnf);refine no ?_;exact trivial
  ·rintro _ _;obtain ⟨r2, hx30, h⟩ := obind h;(conv=>whnf);refine sr ?_;(conv=>whnf);refine CallG.pure _ (rateSumC hN hx30) ?_;(conv=>whnf);intro hd5;obtain ⟨l4, hx31, h⟩ := obind h;(conv=>whnf);refine Side.mk ⟨rfl, rfl⟩ ?_;(conv=>whnf);refine Side.mk ⟨rfl, rfl, rfl⟩ (Need.mk (app_need hN hx31 (by decide)) (Eqv.mk (List.map I l4) (app_map _ hx31) ?_));(conv=>whnf);intro hd6;(conv=>whnf);refine sr ?_;(conv=>whnf);cases h;exact ⟨(), trivial, rfl, inO_at (ren := id) (And.intro rfl trivial)⟩
theorem rateReadCountingC {N : Nat} (hN : N ≤ 1073741824) {bowler1 : Int} {before1 : Int} {c1 : Int} {c2 : Int} {c3 : Int} {c4 : Int} {c5 : Int} {c6 : List Int} {c7 : List RateSheet} {c8 : List Int} {m1 : List (RateTurn × RateSheet)} {bo1 : Nat} {bo2 : Nat} {r : Int × Int} (h : rateReadCounting N bowler1 before1 c1 c2 c3 c4 c5 c6 c7 c8 m1 = some r) :
    ACalls Tryz.prog 104 [.ptr 145019 bo1 0, .d (I bowler1), .d (I before1)] [(145019, .cells bo1 [.d (I c1), .d (I c2), .d (I c3), .d (I c4), .d (I c5), .d (.list 1 (List.map I c6)), .d (.list 6 (List.map RateSheet.enc c7)), .d (.list 1 (List.map I c8)), .mp 145017 bo2]), (145017, .map bo2 (List.map (fun p => (.agg [I p.1.fBowler, I p.1.fWeek], .agg [I p.2.fNumber, I p.2.fBowler, I p.2.fWeek, I p.2.fGames.a0, I p.2.fGames.a1, I p.2.fGames.a2])) m1))] fun ae os => ∃ y : Nat, True ∧ ae = .ret (.fn (.func 139) [] [.d (.ref (.agg [I r.1])), .ptr 1525003 y 0, .d (.ref (.agg [I r.2]))]) ∧ os = [(145019, .cells bo1 [.d (I c1), .d (I c2), .d (I c3), .d (I c4), .d (I c5), .d (.list 1 (List.map I c6)), .d (.list 6 (List.map RateSheet.enc c7)), .d (.list 1 (List.map I c8)), .mp 145017 bo2]), (145017, .map bo2 (List.map (fun p => (.agg [I p.1.fBowler, I p.1.fWeek], .agg [I p.2.fNumber, I p.2.fBowler, I p.2.fWeek, I p.2.fGames.a0, I p.2.fGames.a1, I p.2.fGames.a2])) m1)), (1525003, .cells y [.ptr 145019 bo1 0])] := by
  refine acalls_own (fresh := false) tt_ok dr_ok ⟨[4, 5], [], [], [], [], 1525000, []⟩ Tryz.func104 rfl Tryz.call104 rfl ?_
  unfold rateReadCounting at h
  (conv=>whnf);intro b2;(conv=>whnf);cases h;exact ⟨b2, trivial, rfl, inO_at (ren := id) (And.intro rfl (And.intro rfl (And.intro rfl trivial)))⟩
end Go.Proofs.YtignpdbcgjllkaaGreat
