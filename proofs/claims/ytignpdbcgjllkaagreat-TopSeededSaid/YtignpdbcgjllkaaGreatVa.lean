/-
  Walks: what the typed functions compute, the program’s functions return.
-/
import Derived.Test.YtignpdbcgjllkaaGreatWe
namespace Go.Proofs.YtignpdbcgjllkaaGreat
open Go Go.Abs Go.Kp
set_option maxRecDepth 100000
set_option maxHeartbeats 8000000
set_option linter.all false
theorem law08ThinC {N : Nat} (hN : N ≤ 1073741824) {l1 : Ref08League} {r : Bool} (h : law08Thin N l1 = some r) :
    ACalls Tryz.prog 15 [.d (.agg [I l1.fTeams, .list 5 (List.map Ref08Game.enc l1.fGames)])] [] fun e os => e = .ret (.d (.bool r)) ∧ os = [] := by
  refine acalls_f (fresh := false) tt_ok dr_ok ⟨[1], [], [], [], [], 0, []⟩ Tryz.func15 rfl Tryz.call15 rfl ?_
  unfold law08Thin at h
  (conv=>whnf);refine LnA.mk _ (List.length_map _) ?_;(conv=>whnf);cases h;exact rfl
theorem ref08InC {N : Nat} (hN : N ≤ 1073741824) {n1 : Int} {low1 : Int} {high1 : Int} {r : Bool} (h : ref08In N n1 low1 high1 = some r) :
    ACalls Tryz.prog 39 [.d (I n1), .d (I low1), .d (I high1)] [] fun e os => e = .ret (.d (.bool r)) ∧ os = [] := by
  refine acalls_f (fresh := false) tt_ok dr_ok ⟨[], [], [], [], [1], 0, []⟩ Tryz.func39 rfl Tryz.call39 rfl ?_
  unfold ref08In at h
  obtain ⟨v1, hx1, h⟩ := obind h;(conv=>whnf);refine SeqG.mk Unit (fun y => [(6, .d (.bool v1))]) (fun y => []) (fun _ => True) ?_ ?_
  ·(conv=>whnf);refine Br.mk (fun hc2 => ?_) (fun hc2 => ?_)
   ·replace hx1 := ite_t hc2 hx1;cases hx1;(conv=>whnf);refine ⟨(), trivial, Sub.eq rfl ?_ ?_⟩
    ·(repeat ((conv=>whnf);refine nr ?_));exact trivial
    ·exact trivial
   ·replace hx1 := ite_f hc2 hx1;cases hx1;(conv=>whnf);refine ⟨(), trivial, Sub.eq rfl ?_ ?_⟩
    ·(repeat ((conv=>whnf);refine nr ?_));exact trivial
    ·exact trivial
  ·rintro _ _;(conv=>whnf);cases h;exact rfl
theorem ref08FaultC {N : Nat} (hN : N ≤ 1073741824) {l1 : Ref08League} {r : Int} (h : ref08Fault N l1 = some r) :
    ACalls Tryz.prog 16 [.d (.agg [I l1.fTeams, .list 5 (List.map Ref08Game.enc l1.fGames)])] [] fun e os => e = .ret (.d (I r)) ∧ os = [] := by
  refine acalls_f (fresh := false) tt_ok dr_ok ⟨[1], [], [], [], [9, 1005], 0, []⟩ Tryz.func16 rfl Tryz.call16 rfl ?_
  unfold ref08Fault at h
  (conv=>whnf);refine LnA.mk _ (List.length_map _) ?_;(conv=>whnf);refine Br.mk (fun hc2 => ?_) (fun hc2 => ?_)
  ·replace h := ite_t hc2 h;(conv=>whnf);cases h;exact rfl
  ·replace h := ite_f hc2 h;obtain ⟨r4, hx4, h⟩ := obind h;(conv=>whnf);refine CallG.pure _ (ref08InC hN hx4) ?_;(conv=>whnf);refine Br.mk (fun hc4 => ?_) (fun hc4 => ?_)
   ·replace h := ite_t hc4 h;(conv=>whnf);cases h;exact rfl
   ·replace h := ite_f hc4 h;(conv=>whnf);refine SeqG.mk Unit (fun y => []) (fun y => []) (fun y => ref08Fault_k1 N = some r) ?_ ?_
    ·(conv=>whnf);refine LoopG.mk (Nat × Int) (fun y => [(1, .d (.ref (.agg [I l1.fTeams, .list 5 (List.map Ref08Game.enc l1.fGames)]))), (3, .d (I y.2))]) (fun y => []) (fun y => loopN (fun rr x => ref08Fault_b2 N l1 rr x) y.1 y.2 = some r) (fun y => y.1) (N, 0) h (Sub.eq rfl ?_ ?_) ?_
     ·(repeat ((conv=>whnf);refine nr ?_));exact trivial
     ·exact trivial
     ·rintro ⟨n2, i8⟩ hl2;obtain ⟨n2, rfl, hl2⟩ := loopN_some hl2;replace hl2 : ref08Fault_b2 N l1 (loopN (fun rr x => ref08Fault_b2 N l1 rr x) n2) i8 = some r := hl2;rw [ref08Fault_b2] at hl2;(conv=>whnf);refine LnA.mk _ (List.length_map _) ?_;(conv=>whnf);refine Br.mk (fun hc146 => ?_) (fun hc146 => ?_)
      ·replace hl2 := ite_t hc146 hl2;obtain ⟨x24, hx127, hl2⟩ := obind hl2;(conv=>whnf);refine Side.mk rfl ⟨_, idx_0 hx127, idx_map _ hx127, ?_⟩;(conv=>whnf);intro b24;(conv=>whnf);refine sr ?_;obtain ⟨v12, hx132, hl2⟩ := obind hl2;(conv=>whnf);refine SeqG.mk Unit (fun y => [(1, .d (.ref (.agg [I l1.fTeams, .list 5 (List.map Ref08Game.enc l1.fGames)]))), (3, .d (I i8)), (71, .d (.bool v12))]) (fun y => []) (fun _ => True) ?_ ?_
       ·(conv=>whnf);refine sr ?_;obtain ⟨r97, hx133, hx132⟩ := obind hx132;(conv=>whnf);refine CallG.pure _ (ref08InC hN hx133) ?_;(conv=>whnf);refine Br.mk (fun hc166 => ?_) (fun hc166 => ?_)
        ·replace hx132 := ite_f hc166 hx132;(conv=>whnf);refine sr ?_;obtain ⟨r98, hx134, hx132⟩ := obind hx132;(conv=>whnf);refine CallG.pure _ (ref08InC hN hx134) ?_;(conv=>whnf);refine Br.mk (fun hc167 => ?_) (fun hc167 => ?_)
         ·replace hx132 := ite_f hc167 hx132;(conv=>whnf);refine sr ?_;(conv=>whnf);refine sr ?_;(conv=>whnf);refine Br.mk (fun hc168 => ?_) (fun hc168 => ?_)
          ·replace hx132 := ite_f hc168 hx132;(conv=>whnf);refine sr ?_;obtain ⟨r99, hx135, hx132⟩ := obind hx132;(conv=>whnf);refine CallG.pure _ (ref08InC hN hx135) ?_;(conv=>whnf);refine Br.mk (fun hc169 => ?_) (fun hc169 => ?_)
           ·replace hx132 := ite_f hc169 hx132;(conv=>whnf);refine sr ?_;obtain ⟨r100, hx136, hx132⟩ := obind hx132;(conv=>whnf);refine CallG.pure _ (ref08InC hN hx136) ?_;(conv=>whnf);refine Br.mk (fun hc170 => ?_) (fun hc170 => ?_)
            ·replace hx132 := ite_f hc170 hx132;(conv=>whnf);refine sr ?_;(conv=>whnf);refine Br.mk (fun hc171 => ?_) (fun hc171 => ?_)
             ·replace hx132 := ite_t hc171 hx132;(conv=>whnf);refine sr ?_;(conv=>whnf);refine sr ?_;cases hx132;(conv=>whnf);refine ⟨(), trivial, Sub.eq rfl ?_ ?_⟩
              ·(repeat ((conv=>whnf);refine nr ?_));exact trivial
              ·exact trivial
             ·replace hx132 := ite_f hc171 hx132;cases hx132;(conv=>whnf);refine ⟨(), trivial, Sub.eq rfl ?_ ?_⟩
              ·(repeat ((conv=>whnf);refine nr ?_));exact trivial
              ·exact trivial
            ·replace hx132 := ite_t hc170 hx132;cases hx132;(conv=>whnf);refine ⟨(), trivial, Sub.eq rfl ?_ ?_⟩
             ·(repeat ((conv=>whnf);refine nr ?_));exact trivial
             ·exact trivial
           ·replace hx132 := ite_t hc169 hx132;cases hx132;(conv=>whnf);refine ⟨(), trivial, Sub.eq rfl ?_ ?_⟩
            ·(repeat ((conv=>whnf);refine nr ?_));exact trivial
            ·exact trivial
          ·replace hx132 := ite_t hc168 hx132;cases hx132;(conv=>whnf);refine ⟨(), trivial, Sub.eq rfl ?_ ?_⟩
           ·(repeat ((conv=>whnf);refine nr ?_));exact trivial
           ·exact trivial
         ·replace hx132 := ite_t hc167 hx132;cases hx132;(conv=>whnf);refine ⟨(), trivial, Sub.eq rfl ?_ ?_⟩
          ·(repeat ((conv=>whnf);refine nr ?_));exact trivial
          ·exact trivial
        ·replace hx132 := ite_t hc166 hx132;cases hx132;(conv=>whnf);refine ⟨(), trivial, Sub.eq rfl ?_ ?_⟩
         ·(repeat ((conv=>whnf);refine nr ?_));exact trivial
         ·exact trivial
       ·rintro _ _;(conv=>whnf);refine Br.mk (fun hc172 => ?_) (fun hc172 => ?_)
        ·replace hl2 := ite_t hc172 hl2;(conv=>whnf);cases hl2;exact rfl
        ·replace hl2 := ite_f hc172 hl2;(conv=>whnf);refine ⟨(n2, w64 (i8 + 1)), hl2, Sub.eq rfl ?_ ?_, Nat.lt_succ_self _⟩
         ·(repeat ((conv=>whnf);refine nr ?_));exact trivial
         ·exact trivial
      ·replace hl2 := ite_f hc146 hl2;(conv=>whnf);refine ⟨(), hl2, Sub.eq rfl ?_ ?_⟩
       ·(repeat ((conv=>whnf);refine nr ?_));exact trivial
       ·exact trivial
    ·clear h;rintro _ h;unfold ref08Fault_k1 at h;(conv=>whnf);cases h;exact rfl
theorem rateWithinC {N : Nat} (hN : N ≤ 1073741824) {n1 : Int} {low1 : Int} {high1 : Int} {r : Bool} (h : rateWithin N n1 low1 high1 = some r) :
    ACalls Tryz.prog 60 [.d (I n1), .d (I low1), .d (I high1)] [] fun e os => e = .ret (.d (.bool r)) ∧ os = [] := by
  refine acalls_f (fresh := false) tt_ok dr_ok ⟨[], [], [], [], [1], 0, []⟩ Tryz.func60 rfl Tryz.call60 rfl ?_
  unfold rateWithin at h
  obtain ⟨v1, hx1, h⟩ := obind h;(conv=>whnf);refine SeqG.mk Unit (fun y => [(6, .d (.bool v1))]) (fun y => []) (fun _ => True) ?_ ?_
  ·(conv=>whnf);refine Br.mk (fun hc2 => ?_) (fun hc2 => ?_)
   ·replace hx1 := ite_t hc2 hx1;cases hx1;(conv=>whnf);refine ⟨(), trivial, Sub.eq rfl ?_ ?_⟩
    ·(repeat ((conv=>whnf);refine nr ?_));exact trivial
    ·exact trivial
   ·replace hx1 := ite_f hc2 hx1;cases hx1;(conv=>whnf);refine ⟨(), trivial, Sub.eq rfl ?_ ?_⟩
    ·(repeat ((conv=>whnf);refine nr ?_));exact trivial
    ·exact trivial
  ·rintro _ _;(conv=>whnf);cases h;exact rfl
theorem rateCountC {N : Nat} (hN : N ≤ 1073741824) {n1 : Int} {r : Bool} (h : rateCount N n1 = some r) :
    ACalls Tryz.prog 94 [.d (I n1)] [] fun e os => e = .ret (.d (.bool r)) ∧ os = [] := by
  refine acalls_f (fresh := false) tt_ok dr_ok ⟨[], [], [], [], [], 0, []⟩ Tryz.func94 rfl Tryz.call94 rfl ?_
  unfold rateCount at h
  obtain ⟨r2, hx2, h⟩ := obind h;(conv=>whnf);refine CallG.pure _ (rateWithinC hN hx2) ?_;(conv=>whnf);cases h;exact rfl
theorem rateLawValidC {N : Nat} (hN : N ≤ 1073741824) {l1 : RateLaw} {r : Bool} (h : rateLawValid N l1 = some r) :
    ACalls Tryz.prog 93 [.d (.agg [I l1.fBase, I l1.fPercent, I l1.fCap, I l1.fLeast, I l1.fBlind])] [] fun e os => e = .ret (.d (.bool r)) ∧ os = [] := by
  refine acalls_f (fresh := false) tt_ok dr_ok ⟨[1], [], [], [], [1], 0, []⟩ Tryz.func93 rfl Tryz.call93 rfl ?_
  unfold rateLawValid at h
  obtain ⟨v1, hx6, h⟩ := obind h;(conv=>whnf);refine SeqG.mk Unit (fun y => [(2, .d (.bool v1))]) (fun y => []) (fun _ => True) ?_ ?_
  ·obtain ⟨r6, hx7, hx6⟩ := obind hx6;(conv=>whnf);refine CallG.pure _ (rateCountC hN hx7) ?_;(conv=>whnf);refine Br.mk (fun hc5 => ?_) (fun hc5 => ?_)
   ·replace hx6 := ite_t hc5 hx6;obtain ⟨r7, hx8, hx6⟩ := obind hx6;(conv=>whnf);refine CallG.pure _ (rateWithinC hN hx8) ?_;(conv=>whnf);refine Br.mk (fun hc6 => ?_) (fun hc6 => ?_)
    ·replace hx6 := ite_t hc6 hx6;obtain ⟨r8, hx9, hx6⟩ := obind hx6;(conv=>whnf);refine CallG.pure _ (rateCountC hN hx9) ?_;(conv=>whnf);refine Br.mk (fun hc7 => ?_) (fun hc7 => ?_)
     ·replace hx6 := ite_t hc7 hx6;obtain ⟨r9, hx10, hx6⟩ := obind hx6;(conv=>whnf);refine CallG.pure _ (rateWithinC hN hx10) ?_;(conv=>whnf);refine Br.mk (fun hc8 => ?_) (fun hc8 => ?_)
      ·replace hx6 := ite_t hc8 hx6;obtain ⟨r10, hx11, hx6⟩ := obind hx6;(conv=>whnf);refine CallG.pure _ (rateCountC hN hx11) ?_;cases hx6;(conv=>whnf);refine ⟨(), trivial, Sub.eq rfl ?_ ?_⟩
       ·(repeat ((conv=>whnf);refine nr ?_));exact trivial
       ·exact trivial
      ·replace hx6 := ite_f hc8 hx6;cases hx6;(conv=>whnf);refine ⟨(), trivial, Sub.eq rfl ?_ ?_⟩
       ·(repeat ((conv=>whnf);refine nr ?_));exact trivial
       ·exact trivial
     ·replace hx6 := ite_f hc7 hx6;cases hx6;(conv=>whnf);refine ⟨(), trivial, Sub.eq rfl ?_ ?_⟩
      ·(repeat ((conv=>whnf);refine nr ?_));exact trivial
      ·exact trivial
    ·replace hx6 := ite_f hc6 hx6;cases hx6;(conv=>whnf);refine ⟨(), trivial, Sub.eq rfl ?_ ?_⟩
     ·(repeat ((conv=>whnf);refine nr ?_));exact trivial
     ·exact trivial
   ·replace hx6 := ite_f hc5 hx6;cases hx6;(conv=>whnf);refine ⟨(), trivial, Sub.eq rfl ?_ ?_⟩
    ·(repeat ((conv=>whnf);refine nr ?_));exact trivial
    ·exact trivial
  ·rintro _ _;(conv=>whnf);cases h;exact rfl
theorem rateAll1C {N : Nat} (hN : N ≤ 1073741824) {x1 : Int} {r : Bool} (h : rateAll1 N x1 = some r) :
    ACalls Tryz.prog 101 [.d (I x1), .d (.ref (.agg [.fn (.func 94) [] []]))] [] fun e os => e = .ret (.d (.bool r)) ∧ os = [] := by
  refine acalls_f (fresh := false) tt_ok dr_ok ⟨[], [], [], [], [], 0, []⟩ Tryz.func101 rfl Tryz.call101 rfl ?_
  unfold rateAll1 at h
  obtain ⟨r2, hx2, h⟩ := obind h;(conv=>whnf);refine CallG.pure _ (rateCountC hN hx2) ?_;(conv=>whnf);cases h;exact rfl
theorem slicesIndexFuncC {N : Nat} (hN : N ≤ 1073741824) {s1 : List Int} {r : Int} (h : slicesIndexFunc N s1 = some r) :
    ACalls Tryz.prog 127 [.d (.list 1 (List.map I s1)), .d (.fn (.func 101) [] [.ref (.agg [.fn (.func 94) [] []])])] [] fun e os => e = .ret (.d (I r)) ∧ os = [] := by
  refine acalls_f (fresh := false) tt_ok dr_ok ⟨[], [], [], [], [1001], 0, []⟩ Tryz.func127 rfl Tryz.call127 rfl ?_
  unfold slicesIndexFunc at h
  (conv=>whnf);refine SeqG.mk Unit (fun y => []) (fun y => []) (fun y => slicesIndexFunc_k1 N = some r) ?_ ?_
  ·(conv=>whnf);refine LnA.mk _ (List.length_map _) ?_;(conv=>whnf);refine LoopG.mk (Nat × (Int × Int)) (fun y => [(0, .d (.list 1 (List.map I s1))), (1, .d (.fn (.func 101) [] [.ref (.agg [.fn (.func 94) [] []])])), (7, .d (I y.2.1)), (8, .d (I y.2.2))]) (fun y => []) (fun y => loopN (fun rr x => slicesIndexFunc_b2 N s1 rr x.1 x.2) y.1 y.2 = some r) (fun y => y.1) (N, ((s1.length : Int), 0)) h (Sub.eq rfl ?_ ?_) ?_
   ·(repeat ((conv=>whnf);refine nr ?_));exact trivial
   ·exact trivial
   ·rintro ⟨n2, ⟨v17, v18⟩⟩ hl2;obtain ⟨n2, rfl, hl2⟩ := loopN_some hl2;replace hl2 : slicesIndexFunc_b2 N s1 (loopN (fun rr x => slicesIndexFunc_b2 N s1 rr x.1 x.2) n2) v17 v18 = some r := hl2;rw [slicesIndexFunc_b2] at hl2;(conv=>whnf);refine Br.mk (fun hc22 => ?_) (fun hc22 => ?_)
    ·replace hl2 := ite_t hc22 hl2;obtain ⟨x24, hx47, hl2⟩ := obind hl2;(conv=>whnf);refine Side.mk rfl ⟨_, idx_0 hx47, idx_map _ hx47, ?_⟩;obtain ⟨r24, hx48, hl2⟩ := obind hl2;(conv=>whnf);refine CallG.pure _ (rateAll1C hN hx48) ?_;(conv=>whnf);refine Br.mk (fun hc24 => ?_) (fun hc24 => ?_)
     ·replace hl2 := ite_t hc24 hl2;(conv=>whnf);cases hl2;exact rfl
     ·replace hl2 := ite_f hc24 hl2;(conv=>whnf);refine ⟨(n2, (v17, w64 (v18 + 1))), hl2, Sub.eq rfl ?_ ?_, Nat.lt_succ_self _⟩
      ·(repeat ((conv=>whnf);refine nr ?_));exact trivial
      ·exact trivial
    ·replace hl2 := ite_f hc22 hl2;(conv=>whnf);refine ⟨(), hl2, Sub.eq rfl ?_ ?_⟩
     ·(repeat ((conv=>whnf);refine nr ?_));exact trivial
     ·exact trivial
  ·clear h;rintro _ h;unfold slicesIndexFunc_k1 at h;(conv=>whnf);cases h;exact rfl
theorem slicesContainsFuncC {N : Nat} (hN : N ≤ 1073741824) {s1 : List Int} {r : Bool} (h : slicesContainsFunc N s1 = some r) :
    ACalls Tryz.prog 100 [.d (.list 1 (List.map I s1)), .d (.fn (.func 101) [] [.ref (.agg [.fn (.func 94) [] []])])] [] fun e os => e = .ret (.d (.bool r)) ∧ os = [] := by
  refine acalls_f (fresh := false) tt_ok dr_ok ⟨[], [], [], [], [], 0, []⟩ Tryz.func100 rfl Tryz.call100 rfl ?_
  unfold slicesContainsFunc at h
  obtain ⟨r2, hx2, h⟩ := obind h;(conv=>whnf);refine CallG.pure _ (slicesIndexFuncC hN hx2) ?_;(conv=>whnf);cases h;exact rfl
theorem rateAllC {N : Nat} (hN : N ≤ 1073741824) {l1 : List Int} {r : Bool} (h : rateAll N l1 = some r) :
    ACalls Tryz.prog 63 [.d (.list 1 (List.map I l1)), .d (.fn (.func 94) [] [])] [] fun e os => e = .ret (.d (.bool r)) ∧ os = [] := by
  refine acalls_f (fresh := false) tt_ok dr_ok ⟨[3], [], [], [], [], 0, []⟩ Tryz.func63 rfl Tryz.call63 rfl ?_
  unfold rateAll at h
  obtain ⟨r2, hx2, h⟩ := obind h;(conv=>whnf);refine CallG.pure _ (slicesContainsFuncC hN hx2) ?_;(conv=>whnf);cases h;exact rfl
theorem slicesIndexFuncXC {N : Nat} (hN : N ≤ 1073741824) {s1 : List RateSheet} {f1 : RateBook} {r : Int} (h : slicesIndexFuncX N s1 f1 = some r) :
    ACalls Tryz.prog 144 [.d (.list 6 (List.map RateSheet.enc s1)), .d (.fn (.func 126) [] [.ref (.agg [.fn (.func 96) [.agg [I f1.fLaw.fBase, I f1.fLaw.fPercent, I f1.fLaw.fCap, I f1.fLaw.fLeast, I f1.fLaw.fBlind, .list 1 (List.map I f1.fBowlers), .list 6 (List.map RateSheet.enc f1.fSheets), .list 1 (List.map I f1.fWithdrawn)]] []])])] [] fun e os => e = .ret (.d (I r)) ∧ os = [] := by
  refine acalls_f (fresh := false) tt_ok dr_ok ⟨[], [], [], [], [1001], 0, []⟩ Tryz.func144 rfl Tryz.call144 rfl ?_
  unfold slicesIndexFuncX at h
  obtain ⟨_, hx13, h⟩ := obind h;(conv=>whnf);refine SeqG.mk Unit (fun y => []) (fun y => []) (fun _ => True) ?_ ?_
  ·(conv=>whnf);refine LnA.mk _ (List.length_map _) ?_;(conv=>whnf);refine LoopG.mk (Nat × Int) (fun y => [(0, .d (.list 6 (List.map RateSheet.enc s1))), (1, .d (.fn (.func 126) [] [.ref (.agg [.fn (.func 96) [.agg [I f1.fLaw.fBase, I f1.fLaw.fPercent, I f1.fLaw.fCap, I f1.fLaw.fLeast, I f1.fLaw.fBlind, .list 1 (List.map I f1.fBowlers), .list 6 (List.map RateSheet.enc f1.fSheets), .list 1 (List.map I f1.fWithdrawn)]] []])])), (7, .d (I y.2)), (8, .i .i64 0)]) (fun y => []) (fun y => loopN (fun rr x => slicesIndexFuncX_b1 N s1 rr x) y.1 y.2 = some ()) (fun y => y.1) (N, (s1.length : Int)) hx13 (Sub.eq rfl ?_ ?_) ?_
   ·(repeat ((conv=>whnf);refine nr ?_));exact trivial
   ·exact trivial
   ·rintro ⟨n2, v10⟩ hl2;obtain ⟨n2, rfl, hl2⟩ := loopN_some hl2;replace hl2 : slicesIndexFuncX_b1 N s1 (loopN (fun rr x => slicesIndexFuncX_b1 N s1 rr x) n2) v10 = some () := hl2;rw [slicesIndexFuncX_b1] at hl2;(conv=>whnf);refine Br.mk (fun hc12 => ?_) (fun hc12 => ?_)
    ·replace hl2 := ite_t hc12 hl2;obtain ⟨x24, hx25, hl2⟩ := obind hl2;(conv=>whnf);refine Side.mk rfl ⟨_, idx_0 hx25, idx_map _ hx25, ?_⟩;cases hl2
    ·replace hl2 := ite_f hc12 hl2;(conv=>whnf);refine ⟨(), trivial, Sub.eq rfl ?_ ?_⟩
     ·(repeat ((conv=>whnf);refine nr ?_));exact trivial
     ·exact trivial
  ·rintro _ _;(conv=>whnf);cases h;exact rfl
theorem slicesContainsFuncXC {N : Nat} (hN : N ≤ 1073741824) {s1 : List RateSheet} {f1 : RateBook} {r : Bool} (h : slicesContainsFuncX N s1 f1 = some r) :
    ACalls Tryz.prog 125 [.d (.list 6 (List.map RateSheet.enc s1)), .d (.fn (.func 126) [] [.ref (.agg [.fn (.func 96) [.agg [I f1.fLaw.fBase, I f1.fLaw.fPercent, I f1.fLaw.fCap, I f1.fLaw.fLeast, I f1.fLaw.fBlind, .list 1 (List.map I f1.fBowlers), .list 6 (List.map RateSheet.enc f1.fSheets), .list 1 (List.map I f1.fWithdrawn)]] []])])] [] fun e os => e = .ret (.d (.bool r)) ∧ os = [] := by
  refine acalls_f (fresh := false) tt_ok dr_ok ⟨[], [], [], [], [], 0, []⟩ Tryz.func125 rfl Tryz.call125 rfl ?_
  unfold slicesContainsFuncX at h
  obtain ⟨r2, hx2, h⟩ := obind h;(conv=>whnf);refine CallG.pure _ (slicesIndexFuncXC hN hx2) ?_;(conv=>whnf);cases h;exact rfl
theorem rateAllXC {N : Nat} (hN : N ≤ 1073741824) {l1 : List RateSheet} {right1 : RateBook} {r : Bool} (h : rateAllX N l1 right1 = some r) :
    ACalls Tryz.prog 95 [.d (.list 6 (List.map RateSheet.enc l1)), .d (.fn (.func 96) [.agg [I right1.fLaw.fBase, I right1.fLaw.fPercent, I right1.fLaw.fCap, I right1.fLaw.fLeast, I right1.fLaw.fBlind, .list 1 (List.map I right1.fBowlers), .list 6 (List.map RateSheet.enc right1.fSheets), .list 1 (List.map I right1.fWithdrawn)]] [])] [] fun e os => e = .ret (.d (.bool r)) ∧ os = [] := by
  refine acalls_f (fresh := false) tt_ok dr_ok ⟨[3], [], [], [], [], 0, []⟩ Tryz.func95 rfl Tryz.call95 rfl ?_
  unfold rateAllX at h
  obtain ⟨r2, hx2, h⟩ := obind h;(conv=>whnf);refine CallG.pure _ (slicesContainsFuncXC hN hx2) ?_;(conv=>whnf);cases h;exact rfl
theorem slicesIndexFuncXXC {N : Nat} (hN : N ≤ 1073741824) {s1 : List Int} {r : Int} (h : slicesIndexFuncXX N s1 = some r) :
    ACalls Tryz.prog 127 [.d (.list 1 (List.map I s1)), .d (.fn (.func 101) [] [.ref (.agg [.fn (.func 97) [] []])])] [] fun e os => e = .ret (.d (I r)) ∧ os = [] := by
  refine acalls_f (fresh := false) tt_ok dr_ok ⟨[], [], [], [], [1001], 0, []⟩ Tryz.func127 rfl Tryz.call127 rfl ?_
  unfold slicesIndexFuncXX at h
  obtain ⟨_, hx13, h⟩ := obind h;(conv=>whnf);refine SeqG.mk Unit (fun y => []) (fun y => []) (fun _ => True) ?_ ?_
  ·(conv=>whnf);refine LnA.mk _ (List.length_map _) ?_;(conv=>whnf);refine LoopG.mk (Nat × Int) (fun y => [(0, .d (.list 1 (List.map I s1))), (1, .d (.fn (.func 101) [] [.ref (.agg [.fn (.func 97) [] []])])), (7, .d (I y.2)), (8, .i .i64 0)]) (fun y => []) (fun y => loopN (fun rr x => slicesIndexFuncXX_b1 N s1 rr x) y.1 y.2 = some ()) (fun y => y.1) (N, (s1.length : Int)) hx13 (Sub.eq rfl ?_ ?_) ?_
   ·(repeat ((conv=>whnf);refine nr ?_));exact trivial
   ·exact trivial
   ·rintro ⟨n2, v10⟩ hl2;obtain ⟨n2, rfl, hl2⟩ := loopN_some hl2;replace hl2 : slicesIndexFuncXX_b1 N s1 (loopN (fun rr x => slicesIndexFuncXX_b1 N s1 rr x) n2) v10 = some () := hl2;rw [slicesIndexFuncXX_b1] at hl2;(conv=>whnf);refine Br.mk (fun hc12 => ?_) (fun hc12 => ?_)
    ·replace hl2 := ite_t hc12 hl2;obtain ⟨x24, hx25, hl2⟩ := obind hl2;(conv=>whnf);refine Side.mk rfl ⟨_, idx_0 hx25, idx_map _ hx25, ?_⟩;cases hl2
    ·replace hl2 := ite_f hc12 hl2;(conv=>whnf);refine ⟨(), trivial, Sub.eq rfl ?_ ?_⟩
     ·(repeat ((conv=>whnf);refine nr ?_));exact trivial
     ·exact trivial
  ·rintro _ _;(conv=>whnf);cases h;exact rfl
theorem slicesContainsFuncXXC {N : Nat} (hN : N ≤ 1073741824) {s1 : List Int} {r : Bool} (h : slicesContainsFuncXX N s1 = some r) :
    ACalls Tryz.prog 100 [.d (.list 1 (List.map I s1)), .d (.fn (.func 101) [] [.ref (.agg [.fn (.func 97) [] []])])] [] fun e os => e = .ret (.d (.bool r)) ∧ os = [] := by
  refine acalls_f (fresh := false) tt_ok dr_ok ⟨[], [], [], [], [], 0, []⟩ Tryz.func100 rfl Tryz.call100 rfl ?_
  unfold slicesContainsFuncXX at h
  obtain ⟨r2, hx2, h⟩ := obind h;(conv=>whnf);refine CallG.pure _ (slicesIndexFuncXXC hN hx2) ?_;(conv=>whnf);cases h;exact rfl
theorem rateAllXXC {N : Nat} (hN : N ≤ 1073741824) {l1 : List Int} {r : Bool} (h : rateAllXX N l1 = some r) :
    ACalls Tryz.prog 63 [.d (.list 1 (List.map I l1)), .d (.fn (.func 97) [] [])] [] fun e os => e = .ret (.d (.bool r)) ∧ os = [] := by
  refine acalls_f (fresh := false) tt_ok dr_ok ⟨[3], [], [], [], [], 0, []⟩ Tryz.func63 rfl Tryz.call63 rfl ?_
  unfold rateAllXX at h
  obtain ⟨r2, hx2, h⟩ := obind h;(conv=>whnf);refine CallG.pure _ (slicesContainsFuncXXC hN hx2) ?_;(conv=>whnf);cases h;exact rfl
theorem rateRisingC {N : Nat} (hN : N ≤ 1073741824) {l1 : List Int} {r : Bool} (h : rateRising N l1 = some r) :
    ACalls Tryz.prog 65 [.d (.list 1 (List.map I l1))] [] fun e os => e = .ret (.d (.bool r)) ∧ os = [] := by
  refine acalls_f (fresh := false) tt_ok dr_ok ⟨[], [], [], [], [4, 1001], 0, []⟩ Tryz.func65 rfl Tryz.call65 rfl ?_
  unfold rateRising at h
  obtain ⟨_, hx23, h⟩ := obind h;(conv=>whnf);refine SeqG.mk Unit (fun y => []) (fun y => []) (fun _ => True) ?_ ?_
  ·(conv=>whnf);refine LnA.mk _ (List.length_map _) ?_;(conv=>whnf);refine LoopG.mk (Nat × (Int × Int)) (fun y => [(0, .d (.list 1 (List.map I l1))), (5, .d (I y.2.1)), (6, .d (I y.2.2))]) (fun y => []) (fun y => loopN (fun rr x => rateRising_b1 N l1 rr x.1 x.2) y.1 y.2 = some ()) (fun y => y.1) (N, ((l1.length : Int), 0)) hx23 (Sub.eq rfl ?_ ?_) ?_
   ·(repeat ((conv=>whnf);refine nr ?_));exact trivial
   ·exact trivial
   ·rintro ⟨n2, ⟨v23, v24⟩⟩ hl2;obtain ⟨n2, rfl, hl2⟩ := loopN_some hl2;replace hl2 : rateRising_b1 N l1 (loopN (fun rr x => rateRising_b1 N l1 rr x.1 x.2) n2) v23 v24 = some () := hl2;rw [rateRising_b1] at hl2;(conv=>whnf);refine Br.mk (fun hc30 => ?_) (fun hc30 => ?_)
    ·replace hl2 := ite_t hc30 hl2;obtain ⟨v26, hx43, hl2⟩ := obind hl2;(conv=>whnf);refine SeqG.mk Unit (fun y => [(0, .d (.list 1 (List.map I l1))), (5, .d (I v23)), (6, .d (I v24)), (22, .d (.bool v26))]) (fun y => []) (fun _ => True) ?_ ?_
     ·(conv=>whnf);refine DrawG.mk (.take 0 (.take 1 (.take 2 (.spl 11 (.take 3 (.take 4 (.take 5 (.take 6 (.take 7 (.take 8 (.take 9 (.take 10 (.take 11 (.take 12 (.take 13 .done))))))))))))))) (by kernel_rfl) ?_;(conv=>whnf);refine Br.mk (fun hc35 => ?_) (fun hc35 => ?_)
      ·replace hx43 := ite_t hc35 hx43;obtain ⟨x31, hx44, hx43⟩ := obind hx43;obtain ⟨x32, hx45, hx43⟩ := obind hx43;(conv=>whnf);refine Side.mk rfl ⟨_, idx_0 hx44, idx_map _ hx44, ?_⟩;(conv=>whnf);refine Side.mk rfl ⟨_, idx_0 hx45, idx_map _ hx45, ?_⟩;cases hx43;(conv=>whnf);refine ⟨(), trivial, Sub.eq rfl ?_ ?_⟩
       ·(repeat ((conv=>whnf);refine nr ?_));exact trivial
       ·exact trivial
      ·replace hx43 := ite_f hc35 hx43;cases hx43;(conv=>whnf);refine ⟨(), trivial, Sub.eq rfl ?_ ?_⟩
       ·(repeat ((conv=>whnf);refine nr ?_));exact trivial
       ·exact trivial
     ·rintro _ _;(conv=>whnf);refine Br.mk (fun hc36 => ?_) (fun hc36 => ?_)
      ·replace hl2 := ite_t hc36 hl2;cases hl2
      ·replace hl2 := ite_f hc36 hl2;(conv=>whnf);refine ⟨(n2, (v23, w64 (v24 + 1))), hl2, Sub.eq rfl ?_ ?_, Nat.lt_succ_self _⟩
       ·(repeat ((conv=>whnf);refine nr ?_));exact trivial
       ·exact trivial
    ·replace hl2 := ite_f hc30 hl2;(conv=>whnf);refine ⟨(), trivial, Sub.eq rfl ?_ ?_⟩
     ·(repeat ((conv=>whnf);refine nr ?_));exact trivial
     ·exact trivial
  ·rintro _ _;(conv=>whnf);cases h;exact rfl
theorem rateCheckBookC {N : Nat} (hN : N ≤ 1073741824) {b1 : RateBook} {r : Int} (h : rateCheckBook N b1 = some r) :
    ACalls Tryz.prog 58 [.d (.agg [I b1.fLaw.fBase, I b1.fLaw.fPercent, I b1.fLaw.fCap, I b1.fLaw.fLeast, I b1.fLaw.fBlind, .list 1 (List.map I b1.fBowlers), .list 6 (List.map RateSheet.enc b1.fSheets), .list 1 (List.map I b1.fWithdrawn)])] [] fun e os => e = .ret (.d (I r)) ∧ os = [] := by
  refine acalls_f (fresh := false) tt_ok dr_ok ⟨[1], [], [], [], [1, 3, 1005], 0, []⟩ Tryz.func58 rfl Tryz.call58 rfl ?_
  unfold rateCheckBook at h
  obtain ⟨v3, hx13, h⟩ := obind h;(conv=>whnf);refine SeqG.mk Unit (fun y => [(1, .d (.ref (.agg [I b1.fLaw.fBase, I b1.fLaw.fPercent, I b1.fLaw.fCap, I b1.fLaw.fLeast, I b1.fLaw.fBlind, .list 1 (List.map I b1.fBowlers), .list 6 (List.map RateSheet.enc b1.fSheets), .list 1 (List.map I b1.fWithdrawn)]))), (7, .d (.bool v3))]) (fun y => []) (fun _ => True) ?_ ?_
  ·(conv=>whnf);refine LnA.mk _ (List.length_map _) ?_;(conv=>whnf);refine Br.mk (fun hc17 => ?_) (fun hc17 => ?_)
   ·replace hx13 := ite_f hc17 hx13;(conv=>whnf);refine LnA.mk _ (List.length_map _) ?_;(conv=>whnf);refine Br.mk (fun hc18 => ?_) (fun hc18 => ?_)
    ·replace hx13 := ite_f hc18 hx13;(conv=>whnf);refine LnA.mk _ (List.length_map _) ?_;cases hx13;(conv=>whnf);refine ⟨(), trivial, Sub.eq rfl ?_ ?_⟩
     ·(repeat ((conv=>whnf);refine nr ?_));exact trivial
     ·exact trivial
    ·replace hx13 := ite_t hc18 hx13;cases hx13;(conv=>whnf);refine ⟨(), trivial, Sub.eq rfl ?_ ?_⟩
     ·(repeat ((conv=>whnf);refine nr ?_));exact trivial
     ·exact trivial
   ·replace hx13 := ite_t hc17 hx13;cases hx13;(conv=>whnf);refine ⟨(), trivial, Sub.eq rfl ?_ ?_⟩
    ·(repeat ((conv=>whnf);refine nr ?_));exact trivial
    ·exact trivial
  ·rintro _ _;(conv=>whnf);refine Br.mk (fun hc19 => ?_) (fun hc19 => ?_)
   ·replace h := ite_t hc19 h;cases h
   ·replace h := ite_f hc19 h;obtain ⟨v4, hx19, h⟩ := obind h;(conv=>whnf);refine SeqG.mk Unit (fun y => [(1, .d (.ref (.agg [I b1.fLaw.fBase, I b1.fLaw.fPercent, I b1.fLaw.fCap, I b1.fLaw.fLeast, I b1.fLaw.fBlind, .list 1 (List.map I b1.fBowlers), .list 6 (List.map RateSheet.enc b1.fSheets), .list 1 (List.map I b1.fWithdrawn)]))), (24, .d (.bool v4))]) (fun y => []) (fun _ => True) ?_ ?_
    ·obtain ⟨r16, hx20, hx19⟩ := obind hx19;(conv=>whnf);refine CallG.pure _ (rateLawValidC hN hx20) ?_;(conv=>whnf);refine Br.mk (fun hc24 => ?_) (fun hc24 => ?_)
     ·replace hx19 := ite_f hc24 hx19;obtain ⟨r17, hx21, hx19⟩ := obind hx19;(conv=>whnf);refine CallG.pure _ (rateAllC hN hx21) ?_;(conv=>whnf);refine Br.mk (fun hc25 => ?_) (fun hc25 => ?_)
      ·replace hx19 := ite_f hc25 hx19;obtain ⟨r18, hx22, hx19⟩ := obind hx19;(conv=>whnf);refine CallG.pure _ (rateAllXC hN hx22) ?_;(conv=>whnf);refine Br.mk (fun hc26 => ?_) (fun hc26 => ?_)
       ·replace hx19 := ite_f hc26 hx19;obtain ⟨r19, hx23, hx19⟩ := obind hx19;(conv=>whnf);refine CallG.pure _ (rateAllXXC hN hx23) ?_;(conv=>whnf);refine Br.mk (fun hc27 => ?_) (fun hc27 => ?_)
        ·replace hx19 := ite_f hc27 hx19;obtain ⟨r20, hx24, hx19⟩ := obind hx19;(conv=>whnf);refine CallG.pure _ (rateRisingC hN hx24) ?_;cases hx19;(conv=>whnf);refine ⟨(), trivial, Sub.eq rfl ?_ ?_⟩
         ·(repeat ((conv=>whnf);refine nr ?_));exact trivial
         ·exact trivial
        ·replace hx19 := ite_t hc27 hx19;cases hx19;(conv=>whnf);refine ⟨(), trivial, Sub.eq rfl ?_ ?_⟩
         ·(repeat ((conv=>whnf);refine nr ?_));exact trivial
         ·exact trivial
       ·replace hx19 := ite_t hc26 hx19;cases hx19;(conv=>whnf);refine ⟨(), trivial, Sub.eq rfl ?_ ?_⟩
        ·(repeat ((conv=>whnf);refine nr ?_));exact trivial
        ·exact trivial
      ·replace hx19 := ite_t hc25 hx19;cases hx19;(conv=>whnf);refine ⟨(), trivial, Sub.eq rfl ?_ ?_⟩
       ·(repeat ((conv=>whnf);refine nr ?_));exact trivial
       ·exact trivial
     ·replace hx19 := ite_t hc24 hx19;cases hx19;(conv=>whnf);refine ⟨(), trivial, Sub.eq rfl ?_ ?_⟩
      ·(repeat ((conv=>whnf);refine nr ?_));exact trivial
      ·exact trivial
    ·rintro _ _;(conv=>whnf);refine Br.mk (fun hc28 => ?_) (fun hc28 => ?_)
     ·replace h := ite_t hc28 h;cases h
     ·replace h := ite_f hc28 h;obtain ⟨_, hx37, h⟩ := obind h;(conv=>whnf);refine SeqG.mk Unit (fun y => []) (fun y => []) (fun _ => True) ?_ ?_
      ·(conv=>whnf);refine LnA.mk _ (List.length_map _) ?_;(conv=>whnf);refine LoopG.mk (Nat × Int) (fun y => [(1, .d (.ref (.agg [I b1.fLaw.fBase, I b1.fLaw.fPercent, I b1.fLaw.fCap, I b1.fLaw.fLeast, I b1.fLaw.fBlind, .list 1 (List.map I b1.fBowlers), .list 6 (List.map RateSheet.enc b1.fSheets), .list 1 (List.map I b1.fWithdrawn)]))), (56, .d (.list 6 (List.map RateSheet.enc b1.fSheets))), (57, .d (I y.2)), (58, .i .i64 0)]) (fun y => []) (fun y => loopN (fun rr x => rateCheckBook_b1 N b1 rr x) y.1 y.2 = some ()) (fun y => y.1) (N, (b1.fSheets.length : Int)) hx37 (Sub.eq rfl ?_ ?_) ?_
       ·(repeat ((conv=>whnf);refine nr ?_));exact trivial
       ·exact trivial
       ·rintro ⟨n2, v14⟩ hl2;obtain ⟨n2, rfl, hl2⟩ := loopN_some hl2;replace hl2 : rateCheckBook_b1 N b1 (loopN (fun rr x => rateCheckBook_b1 N b1 rr x) n2) v14 = some () := hl2;rw [rateCheckBook_b1] at hl2;(conv=>whnf);refine Br.mk (fun hc40 => ?_) (fun hc40 => ?_)
        ·replace hl2 := ite_t hc40 hl2;obtain ⟨x24, hx49, hl2⟩ := obind hl2;(conv=>whnf);refine Side.mk rfl ⟨_, idx_0 hx49, idx_map _ hx49, ?_⟩;(conv=>whnf);intro b25;(conv=>whnf);refine sr ?_;cases hl2
        ·replace hl2 := ite_f hc40 hl2;(conv=>whnf);refine ⟨(), trivial, Sub.eq rfl ?_ ?_⟩
         ·(repeat ((conv=>whnf);refine nr ?_));exact trivial
         ·exact trivial
      ·rintro _ _;(conv=>whnf);cases h;exact rfl
theorem rateBookReadC {N : Nat} (hN : N ≤ 1073741824) {b1 : RateBook} {r : Int × Int × Int × Int × Int × Int × (List Int) × (List RateSheet) × (List Int) × (List (RateTurn × RateSheet))} (h : rateBookRead N b1 = some r) :
    ACalls Tryz.prog 28 [.d (.agg [I b1.fLaw.fBase, I b1.fLaw.fPercent, I b1.fLaw.fCap, I b1.fLaw.fLeast, I b1.fLaw.fBlind, .list 1 (List.map I b1.fBowlers), .list 6 (List.map RateSheet.enc b1.fSheets), .list 1 (List.map I b1.fWithdrawn)])] [] fun ae os => ∃ y : Nat × Nat, True ∧ ae = .ret (.tup [.ptr 145019 y.1 0, .d (I r.1)]) ∧ os = [(145019, .cells y.1 [.d (I r.2.1), .d (I r.2.2.1), .d (I r.2.2.2.1), .d (I r.2.2.2.2.1), .d (I r.2.2.2.2.2.1), .d (.list 1 (List.map I r.2.2.2.2.2.2.1)), .d (.list 6 (List.map RateSheet.enc r.2.2.2.2.2.2.2.1)), .d (.list 1 (List.map I r.2.2.2.2.2.2.2.2.1)), .mp 145017 y.2]), (145017, .map y.2 (List.map (fun p => (.agg [I p.1.fBowler, I p.1.fWeek], .agg [I p.2.fNumber, I p.2.fBowler, I p.2.fWeek, I p.2.fGames.a0, I p.2.fGames.a1, I p.2.fGames.a2])) r.2.2.2.2.2.2.2.2.2))] := by
  refine acalls_own (fresh := false) tt_ok dr_ok ⟨[1], [], [], [], [1005], 145000, []⟩ Tryz.func28 rfl Tryz.call28 rfl ?_
  unfold rateBookRead at h
  obtain ⟨r4, hx4, h⟩ := obind h;(conv=>whnf);refine CallG.pure _ (rateCheckBookC hN hx4) ?_;(conv=>whnf);refine Br.mk (fun hc2 => ?_) (fun hc2 => ?_)
  ·replace h := ite_t hc2 h;cases h
  ·replace h := ite_f hc2 h;(conv=>whnf);intro b4;(conv=>whnf);intro b5;obtain ⟨_, hx17, h⟩ := obind h;(conv=>whnf);refine SeqG.mk Unit (fun y => [(5, .ptr 145019 b5 0)]) (fun y => [(145019, .cells b5 [.d (I b1.fLaw.fBase), .d (I b1.fLaw.fPercent), .d (I b1.fLaw.fCap), .d (I b1.fLaw.fLeast), .d (I b1.fLaw.fBlind), .d (.list 1 (List.map I b1.fBowlers)), .d (.list 6 (List.map RateSheet.enc b1.fSheets)), .d (.list 1 (List.map I b1.fWithdrawn)), .mp 145017 b4]), (145017, .map b4 (List.map (fun p => (.agg [I p.1.fBowler, I p.1.fWeek], .agg [I p.2.fNumber, I p.2.fBowler, I p.2.fWeek, I p.2.fGames.a0, I p.2.fGames.a1, I p.2.fGames.a2])) (([] : List (RateTurn × RateSheet)))))]) (fun _ => True) ?_ ?_
   ·(conv=>whnf);refine LnA.mk _ (List.length_map _) ?_;(conv=>whnf)
    refine LoopG.mk (Nat × Int) (fun y => [(1, .d (.ref (.agg [I b1.fLaw.fBase, I b1.fLaw.fPercent, I b1.fLaw.fCap, I b1.fLaw.fLeast, I b1.fLaw.fBlind, .list 1 (List.map I b1.fBowlers), .list 6 (List.map RateSheet.enc b1.fSheets), .list 1 (List.map I b1.fWithdrawn)]))), (5, .ptr 145019 b5 0), (21, .d (.list 6 (List.map RateSheet.enc b1.fSheets))), (22, .d (I y.2)), (23, .i .i64 0)]) (fun y => [(145019, .cells b5 [.d (I b1.fLaw.fBase), .d (I b1.fLaw.fPercent), .d (I b1.fLaw.fCap), .d (I b1.fLaw.fLeast), .d (I b1.fLaw.fBlind), .d (.list 1 (List.map I b1.fBowlers)), .d (.list 6 (List.map RateSheet.enc b1.fSheets)), .d (.list 1 (List.map I b1.fWithdrawn)), .mp 145017 b4]), (145017, .map b4 (List.map (fun p => (.agg [I p.1.fBowler, I p.1.fWeek], .agg [I p.2.fNumber, I p.2.fBowler, I p.2.fWeek, I p.2.fGames.a0, I p.2.fGames.a1, I p.2.fGames.a2])) (([] : List (RateTurn × RateSheet)))))]) (fun y => loopN (fun rr x => rateBookRead_b1 N b1 rr x) y.1 y.2 = some ()) (fun y => y.1) (N, (b1.fSheets.length : Int)) hx17 (Sub.eq rfl ?_ ?_) ?_
    ·(repeat ((conv=>whnf);refine nr ?_));exact trivial
    ·(conv=>whnf);refine no ?_;(conv=>whnf);refine no ?_;exact trivial
    ·rintro ⟨n2, v10⟩ hl2;obtain ⟨n2, rfl, hl2⟩ := loopN_some hl2;replace hl2 : rateBookRead_b1 N b1 (loopN (fun rr x => rateBookRead_b1 N b1 rr x) n2) v10 = some () := hl2;rw [rateBookRead_b1] at hl2;(conv=>whnf);refine Br.mk (fun hc14 => ?_) (fun hc14 => ?_)
     ·replace hl2 := ite_t hc14 hl2;obtain ⟨x24, hx29, hl2⟩ := obind hl2;(conv=>whnf);refine Side.mk rfl ⟨_, idx_0 hx29, idx_map _ hx29, ?_⟩;(conv=>whnf);intro b29;(conv=>whnf);refine sr ?_;cases hl2
     ·replace hl2 := ite_f hc14 hl2;(conv=>whnf);refine ⟨(), trivial, Sub.eq rfl ?_ ?_⟩
      ·(repeat ((conv=>whnf);refine nr ?_));exact trivial
      ·(conv=>whnf);refine no ?_;(conv=>whnf);refine no ?_;exact trivial
   ·rintro _ _;(conv=>whnf);cases h;exact ⟨(b5, b4), trivial, rfl, inO_at (ren := id) (And.intro rfl (And.intro rfl trivial))⟩
theorem rateWeekC {N : Nat} (hN : N ≤ 1073741824) {n1 : Int} {r : Bool} (h : rateWeek N n1 = some r) :
    ACalls Tryz.prog 29 [.d (I n1)] [] fun e os => e = .ret (.d (.bool r)) ∧ os = [] := by
  refine acalls_f (fresh := false) tt_ok dr_ok ⟨[], [], [], [], [], 0, []⟩ Tryz.func29 rfl Tryz.call29 rfl ?_
  unfold rateWeek at h
  obtain ⟨r2, hx2, h⟩ := obind h;(conv=>whnf);refine CallG.pure _ (rateWithinC hN hx2) ?_;(conv=>whnf);cases h;exact rfl
theorem slicesGrowC {N : Nat} (hN : N ≤ 1073741824) {n1 : Int} {r : (List Int)} (h : slicesGrow N n1 = some r) :
    ACalls Tryz.prog 99 [.nils 1, .d (I n1)] [] fun e os => ∃ hd, e = .ret (.sl 0 hd) ∧ os = [(0, .arr hd 3 1 false (List.map I r))] := by
  refine acalls_fr tt_ok dr_ok ⟨[], [], [], [25], [1003], 0, []⟩ Tryz.func99 rfl Tryz.call99 rfl ?_
  unfold slicesGrow at h
  (conv=>whnf);refine Br.mk (fun hc2 => ?_) (fun hc2 => ?_)
  ·replace h := ite_t hc2 h;cases h
  ·replace h := ite_f hc2 h;obtain ⟨l3, hx3, h⟩ := obind h;(conv=>whnf);refine SeqG.mk Value (fun y => [(0, .sl 22 y)]) (fun y => [(22, .arr y 3 1 false (List.map I l3))]) (fun _ => True) ?_ ?_
   ·(conv=>whnf);refine Br.mk (fun hc4 => ?_) (fun hc4 => ?_)
    ·replace hx3 := ite_t hc4 hx3;(conv=>whnf);refine Need.mk (by decide) ?_;obtain ⟨l4, hx4, hx3⟩ := obind hx3;(conv=>whnf);refine Need.mk (mklp_need hN hx4 (by decide)) (Eqv.mk (List.map I l4) (mklp_map _ hx4 rfl) ?_);(conv=>whnf);intro hd4;obtain ⟨l5, hx5, hx3⟩ := obind hx3;(conv=>whnf);refine Side.mk rfl (Need.mk (slc_need0 _ hx5) (Eqv.mk (List.map I l5) (slc_map0 _ hx5) ?_));(conv=>whnf);intro hd5;cases hx3;(conv=>whnf);refine ⟨hd5, trivial, Sub.eq rfl ?_ ?_⟩
     ·(repeat ((conv=>whnf);refine nr ?_));exact trivial
     ·(conv=>whnf);refine no ?_;exact trivial
    ·replace hx3 := ite_f hc4 hx3;cases hx3;(conv=>whnf);refine ⟨(.slice none 0 0), trivial, Sub.eq rfl ?_ ?_⟩
     ·(repeat ((conv=>whnf);refine nr ?_));exact trivial
     ·(conv=>whnf);refine Need.mk (OLe.nil _ _ _ _) ?_;exact trivial
   ·rintro hd3 _;(conv=>whnf);cases h;exact ⟨_, _, rfl, rfl⟩
theorem slicesConcatC {N : Nat} (hN : N ≤ 1073741824) {slices1 : List (List Int)} {r : (List Int)} (h : slicesConcat N slices1 = some r) :
    ACalls Tryz.prog 61 [.d (.list 1 (List.map (fun x => .list 1 (List.map I x)) slices1))] [] fun e os => ∃ hd, e = .ret (.sl 0 hd) ∧ os = [(0, .arr hd 3 1 false (List.map I r))] := by
  refine acalls_fr tt_ok dr_ok ⟨[], [], [24], [], [1002, 1010], 0, []⟩ Tryz.func61 rfl Tryz.call61 rfl ?_
  unfold slicesConcat at h
  obtain ⟨size5, hx13, h⟩ := obind h;(conv=>whnf);refine SeqG.mk Unit (fun y => [(0, .d (.list 1 (List.map (fun x => .list 1 (List.map I x)) slices1))), (3, .d (I size5))]) (fun y => []) (fun _ => True) ?_ ?_
  ·(conv=>whnf);refine LnA.mk _ (List.length_map _) ?_;(conv=>whnf);refine LoopG.mk (Nat × (Int × Int × Int)) (fun y => [(0, .d (.list 1 (List.map (fun x => .list 1 (List.map I x)) slices1))), (3, .d (I y.2.1)), (9, .d (.list 1 (List.map (fun x => .list 1 (List.map I x)) slices1))), (10, .d (I y.2.2.1)), (11, .d (I y.2.2.2))]) (fun y => []) (fun y => loopN (fun rr x => slicesConcat_b1 N slices1 rr x.1 x.2.1 x.2.2) y.1 y.2 = some size5) (fun y => y.1) (N, (0, (slices1.length : Int), 0)) hx13 (Sub.eq rfl ?_ ?_) ?_
   ·(repeat ((conv=>whnf);refine nr ?_));exact trivial
   ·exact trivial
   ·rintro ⟨n2, ⟨size9, v17, v18⟩⟩ hl2;obtain ⟨n2, rfl, hl2⟩ := loopN_some hl2;replace hl2 : slicesConcat_b1 N slices1 (loopN (fun rr x => slicesConcat_b1 N slices1 rr x.1 x.2.1 x.2.2) n2) size9 v17 v18 = some size5 := hl2;rw [slicesConcat_b1] at hl2;(conv=>whnf);refine Br.mk (fun hc22 => ?_) (fun hc22 => ?_)
    ·replace hl2 := ite_t hc22 hl2;obtain ⟨x24, hx25, hl2⟩ := obind hl2;(conv=>whnf);refine Side.mk rfl ⟨_, idx_0 hx25, idx_map _ hx25, ?_⟩;(conv=>whnf);refine LnA.mk _ (List.length_map _) ?_;(conv=>whnf);refine Br.mk (fun hc24 => ?_) (fun hc24 => ?_)
     ·replace hl2 := ite_t hc24 hl2;cases hl2
     ·replace hl2 := ite_f hc24 hl2;(conv=>whnf);refine ⟨(n2, (w64 (size9 + (x24.length : Int)), v17, w64 (v18 + 1))), hl2, Sub.eq rfl ?_ ?_, Nat.lt_succ_self _⟩
      ·(repeat ((conv=>whnf);refine nr ?_));exact trivial
      ·exact trivial
    ·replace hl2 := ite_f hc22 hl2;cases hl2;(conv=>whnf);refine ⟨(), trivial, Sub.eq rfl ?_ ?_⟩
     ·(repeat ((conv=>whnf);refine nr ?_));exact trivial
     ·exact trivial
  ·rintro _ _;obtain ⟨r2, hx27, h⟩ := obind h;(conv=>whnf);refine CallG.fresh 24 (slicesGrowC hN hx27) ?_;intro hd2;obtain ⟨l11, hx46, h⟩ := obind h;(conv=>whnf);refine SeqG.mk Value (fun y => [(6, .sl 24 y)]) (fun y => [(24, .arr y 3 1 false (List.map I l11))]) (fun _ => True) ?_ ?_
   ·(conv=>whnf);refine LnA.mk _ (List.length_map _) ?_;(conv=>whnf);refine LoopG.mk (Nat × (Int × Int × (List Int)) × Value) (fun y => [(6, .sl 24 y.2.2), (25, .d (.list 1 (List.map (fun x => .list 1 (List.map I x)) slices1))), (26, .d (I y.2.1.1)), (27, .d (I y.2.1.2.1))]) (fun y => [(24, .arr y.2.2 3 1 false (List.map I y.2.1.2.2))]) (fun y => loopN (fun rr x => slicesConcat_b2 N slices1 rr x.1 x.2.1 x.2.2) y.1 y.2.1 = some l11) (fun y => y.1) (N, ((slices1.length : Int), 0, r2), hd2) hx46 (Sub.eq rfl ?_ ?_) ?_
    ·(repeat ((conv=>whnf);refine nr ?_));exact trivial
    ·(conv=>whnf);refine no ?_;exact trivial
    ·rintro ⟨n4, ⟨v35, v36, l19⟩, hd21⟩ hl4;obtain ⟨n4, rfl, hl4⟩ := loopN_some hl4;replace hl4 : slicesConcat_b2 N slices1 (loopN (fun rr x => slicesConcat_b2 N slices1 rr x.1 x.2.1 x.2.2) n4) v35 v36 l19 = some l11 := hl4;rw [slicesConcat_b2] at hl4;(conv=>whnf);refine Br.mk (fun hc36 => ?_) (fun hc36 => ?_)
     ·replace hl4 := ite_t hc36 hl4;obtain ⟨x48, hx63, hl4⟩ := obind hl4;(conv=>whnf);refine Side.mk rfl ⟨_, idx_0 hx63, idx_map _ hx63, ?_⟩;obtain ⟨l21, hx64, hl4⟩ := obind hl4;(conv=>whnf);refine sr ?_;(conv=>whnf);refine Side.mk ⟨rfl, rfl, rfl⟩ (Need.mk (app_need hN hx64 (by decide)) (Eqv.mk (List.map I l21) (app_map _ hx64) ?_));(conv=>whnf);intro hd23;(conv=>whnf);refine ⟨(n4, (v35, w64 (v36 + 1), l21), hd23), hl4, Sub.eq rfl ?_ ?_, Nat.lt_succ_self _⟩
      ·(repeat ((conv=>whnf);refine nr ?_));exact trivial
      ·(conv=>whnf);refine no ?_;exact trivial
     ·replace hl4 := ite_f hc36 hl4;cases hl4;(conv=>whnf);refine ⟨hd21, trivial, Sub.eq rfl ?_ ?_⟩
      ·(repeat ((conv=>whnf);refine nr ?_));exact trivial
      ·(conv=>whnf);refine no ?_;exact trivial
   ·rintro hd13 _;(conv=>whnf);cases h;exact ⟨_, _, rfl, rfl⟩
theorem rateBookBowlerC {N : Nat} (hN : N ≤ 1073741824) {b1 : RateBook} {n1 : Int} {r : Bool} (h : rateBookBowler N b1 n1 = some r) :
    ACalls Tryz.prog 62 [.d (.agg [I b1.fLaw.fBase, I b1.fLaw.fPercent, I b1.fLaw.fCap, I b1.fLaw.fLeast, I b1.fLaw.fBlind, .list 1 (List.map I b1.fBowlers), .list 6 (List.map RateSheet.enc b1.fSheets), .list 1 (List.map I b1.fWithdrawn)]), .d (I n1)] [] fun e os => e = .ret (.d (.bool r)) ∧ os = [] := by
  refine acalls_f (fresh := false) tt_ok dr_ok ⟨[2], [], [], [], [], 0, []⟩ Tryz.func62 rfl Tryz.call62 rfl ?_
  unfold rateBookBowler at h
  (conv=>whnf);refine LnA.mk _ (List.length_map _) ?_;obtain ⟨r2, hx2, h⟩ := obind h;(conv=>whnf);refine CallG.pure _ (rateWithinC hN hx2) ?_;(conv=>whnf);cases h;exact rfl
theorem rateAll1XC {N : Nat} (hN : N ≤ 1073741824) {x1 : Int} {a1 : RateBook} {r : Bool} (h : rateAll1X N x1 a1 = some r) :
    ACalls Tryz.prog 101 [.d (I x1), .d (.ref (.agg [.fn (.func 62) [.agg [I a1.fLaw.fBase, I a1.fLaw.fPercent, I a1.fLaw.fCap, I a1.fLaw.fLeast, I a1.fLaw.fBlind, .list 1 (List.map I a1.fBowlers), .list 6 (List.map RateSheet.enc a1.fSheets), .list 1 (List.map I a1.fWithdrawn)]] []]))] [] fun e os => e = .ret (.d (.bool r)) ∧ os = [] := by
  refine acalls_f (fresh := false) tt_ok dr_ok ⟨[], [], [], [], [], 0, []⟩ Tryz.func101 rfl Tryz.call101 rfl ?_
  unfold rateAll1X at h
  obtain ⟨r2, hx2, h⟩ := obind h;(conv=>whnf);refine CallG.pure _ (rateBookBowlerC hN hx2) ?_;(conv=>whnf);cases h;exact rfl
theorem slicesIndexFuncXXXC {N : Nat} (hN : N ≤ 1073741824) {f1 : RateBook} {l1 : List Int} {ho1 : Value} {r : Int} (h : slicesIndexFuncXXX N f1 l1 = some r) :
    ACalls Tryz.prog 127 [.sl 20 ho1, .d (.fn (.func 101) [] [.ref (.agg [.fn (.func 62) [.agg [I f1.fLaw.fBase, I f1.fLaw.fPercent, I f1.fLaw.fCap, I f1.fLaw.fLeast, I f1.fLaw.fBlind, .list 1 (List.map I f1.fBowlers), .list 6 (List.map RateSheet.enc f1.fSheets), .list 1 (List.map I f1.fWithdrawn)]] []])])] [(20, .arr ho1 3 1 false (List.map I l1))] fun ae os => ∃ y : Unit, True ∧ ae = .ret (.d (I r)) ∧ os = [(20, .arr ho1 3 1 false (List.map I l1))] := by
  refine acalls_own (fresh := false) tt_ok dr_ok ⟨[], [], [], [], [1001], 10000, []⟩ Tryz.func127 rfl Tryz.call127 rfl ?_
  unfold slicesIndexFuncXXX at h
  (conv=>whnf);refine SeqG.mk Unit (fun y => []) (fun y => [(20, .arr ho1 3 1 false (List.map I l1))]) (fun y => slicesIndexFuncXXX_k1 N = some r) ?_ ?_
  ·(conv=>whnf);refine Side.mk rfl (LnA.mk _ (List.length_map _) ?_);(conv=>whnf);refine LoopG.mk (Nat × (Int × Int)) (fun y => [(0, .sl 20 ho1), (1, .d (.fn (.func 101) [] [.ref (.agg [.fn (.func 62) [.agg [I f1.fLaw.fBase, I f1.fLaw.fPercent, I f1.fLaw.fCap, I f1.fLaw.fLeast, I f1.fLaw.fBlind, .list 1 (List.map I f1.fBowlers), .list 6 (List.map RateSheet.enc f1.fSheets), .list 1 (List.map I f1.fWithdrawn)]] []])])), (7, .d (I y.2.1)), (8, .d (I y.2.2))]) (fun y => [(20, .arr ho1 3 1 false (List.map I l1))]) (fun y => loopN (fun rr x => slicesIndexFuncXXX_b2 N f1 l1 rr x.1 x.2) y.1 y.2 = some r) (fun y => y.1) (N, ((l1.length : Int), 0)) h (Sub.eq rfl ?_ ?_) ?_
   ·(repeat ((conv=>whnf);refine nr ?_));exact trivial
   ·(conv=>whnf);refine no ?_;exact trivial
   ·rintro ⟨n2, ⟨v17, v18⟩⟩ hl2;obtain ⟨n2, rfl, hl2⟩ := loopN_some hl2;replace hl2 : slicesIndexFuncXXX_b2 N f1 l1 (loopN (fun rr x => slicesIndexFuncXXX_b2 N f1 l1 rr x.1 x.2) n2) v17 v18 = some r := hl2;rw [slicesIndexFuncXXX_b2] at hl2;(conv=>whnf);refine Br.mk (fun hc22 => ?_) (fun hc22 => ?_)
    ·replace hl2 := ite_t hc22 hl2;obtain ⟨x24, hx47, hl2⟩ := obind hl2;(conv=>whnf);refine Side.mk ⟨rfl, rfl⟩ (Need.mk (idx_need _ hx47) ?_);(conv=>whnf);refine Side.mk ⟨rfl, rfl⟩ ⟨_, Int.natCast_nonneg _, idx_el _ hx47, ?_⟩;obtain ⟨r24, hx48, hl2⟩ := obind hl2;(conv=>whnf);refine CallG.pure _ (rateAll1XC hN hx48) ?_;(conv=>whnf);refine Br.mk (fun hc24 => ?_) (fun hc24 => ?_)
     ·replace hl2 := ite_t hc24 hl2;(conv=>whnf);cases hl2;exact ⟨(), trivial, rfl, inO_at (ren := id) (And.intro rfl trivial)⟩
     ·replace hl2 := ite_f hc24 hl2;(conv=>whnf);refine ⟨(n2, (v17, w64 (v18 + 1))), hl2, Sub.eq rfl ?_ ?_, Nat.lt_succ_self _⟩
      ·(repeat ((conv=>whnf);refine nr ?_));exact trivial
      ·(conv=>whnf);refine no ?_;exact trivial
    ·replace hl2 := ite_f hc22 hl2;(conv=>whnf);refine ⟨(), hl2, Sub.eq rfl ?_ ?_⟩
     ·(repeat ((conv=>whnf);refine nr ?_));exact trivial
     ·(conv=>whnf);refine no ?_;exact trivial
  ·clear h;rintro _ h;unfold slicesIndexFuncXXX_k1 at h;(conv=>whnf);cases h;exact ⟨(), trivial, rfl, inO_at (ren := id) (And.intro rfl trivial)⟩
theorem slicesContainsFuncXXXC {N : Nat} (hN : N ≤ 1073741824) {f1 : RateBook} {l1 : List Int} {ho1 : Value} {r : Bool} (h : slicesContainsFuncXXX N f1 l1 = some r) :
    ACalls Tryz.prog 100 [.sl 20 ho1, .d (.fn (.func 101) [] [.ref (.agg [.fn (.func 62) [.agg [I f1.fLaw.fBase, I f1.fLaw.fPercent, I f1.fLaw.fCap, I f1.fLaw.fLeast, I f1.fLaw.fBlind, .list 1 (List.map I f1.fBowlers), .list 6 (List.map RateSheet.enc f1.fSheets), .list 1 (List.map I f1.fWithdrawn)]] []])])] [(20, .arr ho1 3 1 false (List.map I l1))] fun ae os => ∃ y : Unit, True ∧ ae = .ret (.d (.bool r)) ∧ os = [(20, .arr ho1 3 1 false (List.map I l1))] := by
  refine acalls_own (fresh := false) tt_ok dr_ok ⟨[], [], [7], [], [], 10000, []⟩ Tryz.func100 rfl Tryz.call100 rfl ?_
  unfold slicesContainsFuncXXX at h
  obtain ⟨r2, hx2, h⟩ := obind h;(conv=>whnf);refine CallG.own (slicesIndexFuncXXXC (ho1 := ho1) hN hx2) id [] _ (fun y => [(20, .arr ho1 3 1 false (List.map I l1))]) (all2_le_refl _) (And.intro rfl trivial) rfl (And.intro rfl trivial) trivial (fun _ => AV.le_refl _) (fun _ => rfl) ?_;rintro _ _;(conv=>whnf);cases h;exact ⟨(), trivial, rfl, inO_at (ren := id) (And.intro rfl trivial)⟩
theorem rateAllXXXC {N : Nat} (hN : N ≤ 1073741824) {right1 : RateBook} {l1 : List Int} {ho1 : Value} {r : Bool} (h : rateAllXXX N right1 l1 = some r) :
    ACalls Tryz.prog 63 [.sl 20 ho1, .d (.fn (.func 62) [.agg [I right1.fLaw.fBase, I right1.fLaw.fPercent, I right1.fLaw.fCap, I right1.fLaw.fLeast, I right1.fLaw.fBlind, .list 1 (List.map I right1.fBowlers), .list 6 (List.map RateSheet.enc right1.fSheets), .list 1 (List.map I right1.fWithdrawn)]] [])] [(20, .arr ho1 3 1 false (List.map I l1))] fun ae os => ∃ y : Unit, True ∧ ae = .ret (.d (.bool r)) ∧ os = [(20, .arr ho1 3 1 false (List.map I l1))] := by
  refine acalls_own (fresh := false) tt_ok dr_ok ⟨[3], [], [7], [], [], 10000, []⟩ Tryz.func63 rfl Tryz.call63 rfl ?_
  unfold rateAllXXX at h
  obtain ⟨r2, hx2, h⟩ := obind h;(conv=>whnf);refine CallG.own (slicesContainsFuncXXXC (ho1 := ho1) hN hx2) id [] _ (fun y => [(20, .arr ho1 3 1 false (List.map I l1))]) (all2_le_refl _) (And.intro rfl trivial) rfl (And.intro rfl trivial) trivial (fun _ => AV.le_refl _) (fun _ => rfl) ?_;rintro _ _;(conv=>whnf);cases h;exact ⟨(), trivial, rfl, inO_at (ren := id) (And.intro rfl trivial)⟩
theorem rateRisingXC {N : Nat} (hN : N ≤ 1073741824) {l1 : List Int} {ho1 : Value} {r : Bool} (h : rateRisingX N l1 = some r) :
    ACalls Tryz.prog 65 [.sl 20 ho1] [(20, .arr ho1 3 1 false (List.map I l1))] fun ae os => ∃ y : Unit, True ∧ ae = .ret (.d (.bool r)) ∧ os = [(20, .arr ho1 3 1 false (List.map I l1))] := by
  refine acalls_own (fresh := false) tt_ok dr_ok ⟨[], [], [], [], [4, 1001], 10000, []⟩ Tryz.func65 rfl Tryz.call65 rfl ?_
  unfold rateRisingX at h
  obtain ⟨_, hx23, h⟩ := obind h;(conv=>whnf);refine SeqG.mk Unit (fun y => []) (fun y => [(20, .arr ho1 3 1 false (List.map I l1))]) (fun _ => True) ?_ ?_
  ·(conv=>whnf);refine Side.mk rfl (LnA.mk _ (List.length_map _) ?_);(conv=>whnf);refine LoopG.mk (Nat × (Int × Int)) (fun y => [(0, .sl 20 ho1), (5, .d (I y.2.1)), (6, .d (I y.2.2))]) (fun y => [(20, .arr ho1 3 1 false (List.map I l1))]) (fun y => loopN (fun rr x => rateRisingX_b1 N l1 rr x.1 x.2) y.1 y.2 = some ()) (fun y => y.1) (N, ((l1.length : Int), 0)) hx23 (Sub.eq rfl ?_ ?_) ?_
   ·(repeat ((conv=>whnf);refine nr ?_));exact trivial
   ·(conv=>whnf);refine no ?_;exact trivial
   ·rintro ⟨n2, ⟨v23, v24⟩⟩ hl2;obtain ⟨n2, rfl, hl2⟩ := loopN_some hl2;replace hl2 : rateRisingX_b1 N l1 (loopN (fun rr x => rateRisingX_b1 N l1 rr x.1 x.2) n2) v23 v24 = some () := hl2;rw [rateRisingX_b1] at hl2;(conv=>whnf);refine Br.mk (fun hc30 => ?_) (fun hc30 => ?_)
    ·replace hl2 := ite_t hc30 hl2;obtain ⟨v26, hx43, hl2⟩ := obind hl2;(conv=>whnf);refine SeqG.mk Unit (fun y => [(0, .sl 20 ho1), (5, .d (I v23)), (6, .d (I v24)), (22, .d (.bool v26))]) (fun y => [(20, .arr ho1 3 1 false (List.map I l1))]) (fun _ => True) ?_ ?_
     ·(conv=>whnf);refine DrawG.mk (.take 0 (.take 1 (.take 2 (.spl 11 (.take 3 (.take 4 (.take 5 (.take 6 (.take 7 (.take 8 (.take 9 (.take 10 (.take 11 (.take 12 (.take 13 .done))))))))))))))) (by kernel_rfl) ?_;(conv=>whnf);refine Br.mk (fun hc35 => ?_) (fun hc35 => ?_)
      ·replace hx43 := ite_t hc35 hx43;obtain ⟨x31, hx44, hx43⟩ := obind hx43;obtain ⟨x32, hx45, hx43⟩ := obind hx43;(conv=>whnf);refine Side.mk ⟨rfl, rfl⟩ (Need.mk (idx_need _ hx44) ?_);(conv=>whnf);refine Side.mk ⟨rfl, rfl⟩ ⟨_, Int.natCast_nonneg _, idx_el _ hx44, ?_⟩;(conv=>whnf);refine Side.mk ⟨rfl, rfl⟩ (Need.mk (idx_need _ hx45) ?_);(conv=>whnf);refine Side.mk ⟨rfl, rfl⟩ ⟨_, Int.natCast_nonneg _, idx_el _ hx45, ?_⟩;cases hx43;(conv=>whnf);refine ⟨(), trivial, Sub.eq rfl ?_ ?_⟩
       ·(repeat ((conv=>whnf);refine nr ?_));exact trivial
       ·(conv=>whnf);refine no ?_;exact trivial
      ·replace hx43 := ite_f hc35 hx43;cases hx43;(conv=>whnf);refine ⟨(), trivial, Sub.eq rfl ?_ ?_⟩
       ·(repeat ((conv=>whnf);refine nr ?_));exact trivial
       ·(conv=>whnf);refine no ?_;exact trivial
     ·rintro _ _;(conv=>whnf);refine Br.mk (fun hc36 => ?_) (fun hc36 => ?_)
      ·replace hl2 := ite_t hc36 hl2;cases hl2
      ·replace hl2 := ite_f hc36 hl2;(conv=>whnf);refine ⟨(n2, (v23, w64 (v24 + 1))), hl2, Sub.eq rfl ?_ ?_, Nat.lt_succ_self _⟩
       ·(repeat ((conv=>whnf);refine nr ?_));exact trivial
       ·(conv=>whnf);refine no ?_;exact trivial
    ·replace hl2 := ite_f hc30 hl2;(conv=>whnf);refine ⟨(), trivial, Sub.eq rfl ?_ ?_⟩
     ·(repeat ((conv=>whnf);refine nr ?_));exact trivial
     ·(conv=>whnf);refine no ?_;exact trivial
  ·rintro _ _;(conv=>whnf);cases h;exact ⟨(), trivial, rfl, inO_at (ren := id) (And.intro rfl trivial)⟩
theorem rateBookTeamsC {N : Nat} (hN : N ≤ 1073741824) {b1 : RateBook} {home1 : List Int} {away1 : List Int} {r : Int} (h : rateBookTeams N b1 home1 away1 = some r) :
    ACalls Tryz.prog 30 [.d (.agg [I b1.fLaw.fBase, I b1.fLaw.fPercent, I b1.fLaw.fCap, I b1.fLaw.fLeast, I b1.fLaw.fBlind, .list 1 (List.map I b1.fBowlers), .list 6 (List.map RateSheet.enc b1.fSheets), .list 1 (List.map I b1.fWithdrawn)]), .d (.list 1 (List.map I home1)), .d (.list 1 (List.map I away1))] [] fun e os => e = .ret (.d (I r)) ∧ os = [] := by
  refine acalls_f (fresh := false) tt_ok dr_ok ⟨[3], [], [34, 38, 40], [], [1, 5], 0, []⟩ Tryz.func30 rfl Tryz.call30 rfl ?_
  unfold rateBookTeams at h
  obtain ⟨v2, hx2, h⟩ := obind h;(conv=>whnf);refine SeqG.mk Unit (fun y => [(1, .d (.list 1 (List.map I home1))), (2, .d (.list 1 (List.map I away1))), (3, .d (.ref (.agg [I b1.fLaw.fBase, I b1.fLaw.fPercent, I b1.fLaw.fCap, I b1.fLaw.fLeast, I b1.fLaw.fBlind, .list 1 (List.map I b1.fBowlers), .list 6 (List.map RateSheet.enc b1.fSheets), .list 1 (List.map I b1.fWithdrawn)]))), (16, .d (.bool v2))]) (fun y => []) (fun _ => True) ?_ ?_
  ·(conv=>whnf);refine LnA.mk _ (List.length_map _) ?_;(conv=>whnf);refine Br.mk (fun hc5 => ?_) (fun hc5 => ?_)
   ·replace hx2 := ite_f hc5 hx2;(conv=>whnf);refine LnA.mk _ (List.length_map _) ?_;cases hx2;(conv=>whnf);refine ⟨(), trivial, Sub.eq rfl ?_ ?_⟩
    ·(repeat ((conv=>whnf);refine nr ?_));exact trivial
    ·exact trivial
   ·replace hx2 := ite_t hc5 hx2;cases hx2;(conv=>whnf);refine ⟨(), trivial, Sub.eq rfl ?_ ?_⟩
    ·(repeat ((conv=>whnf);refine nr ?_));exact trivial
    ·exact trivial
  ·rintro _ _;(conv=>whnf);refine Br.mk (fun hc6 => ?_) (fun hc6 => ?_)
   ·replace h := ite_t hc6 h;cases h
   ·replace h := ite_f hc6 h;(conv=>whnf);intro hd3;obtain ⟨r2, hx4, h⟩ := obind h;(conv=>whnf);refine sr ?_;(conv=>whnf);refine CallG.fresh 20 (slicesConcatC hN hx4) ?_;intro hd4;obtain ⟨v4, hx9, h⟩ := obind h;(conv=>whnf);refine SeqG.mk Unit (fun y => [(7, .sl 20 hd4), (36, .d (.bool v4))]) (fun y => [(20, .arr hd4 3 1 false (List.map I r2))]) (fun _ => True) ?_ ?_
    ·(conv=>whnf);refine LnA.mk _ (List.length_map _) ?_;(conv=>whnf);refine Br.mk (fun hc14 => ?_) (fun hc14 => ?_)
     ·replace hx9 := ite_f hc14 hx9;(conv=>whnf);refine LnA.mk _ (List.length_map _) ?_;(conv=>whnf);refine Br.mk (fun hc15 => ?_) (fun hc15 => ?_)
      ·replace hx9 := ite_f hc15 hx9;obtain ⟨r6, hx10, hx9⟩ := obind hx9;(conv=>whnf);refine CallG.own (rateAllXXXC (ho1 := hd4) hN hx10) id [(19, .arr hd3 24 1 true (List.map (fun x => .list 1 (List.map I x)) ([home1, away1])))] _ (fun y => [(20, .arr hd4 3 1 false (List.map I r2)), (19, .arr hd3 24 1 true (List.map (fun x => .list 1 (List.map I x)) ([home1, away1])))]) (all2_le_refl _) (And.intro rfl trivial) rfl (And.intro rfl trivial) (And.intro rfl trivial) (fun _ => AV.le_refl _) (fun _ => rfl) ?_;rintro _ _;cases hx9;(conv=>whnf);refine ⟨(), trivial, Sub.eq rfl ?_ ?_⟩
       ·(repeat ((conv=>whnf);refine nr ?_));exact trivial
       ·(conv=>whnf);refine no ?_;exact trivial
      ·replace hx9 := ite_t hc15 hx9;cases hx9;(conv=>whnf);refine ⟨(), trivial, Sub.eq rfl ?_ ?_⟩
       ·(repeat ((conv=>whnf);refine nr ?_));exact trivial
       ·(conv=>whnf);refine no ?_;exact trivial
     ·replace hx9 := ite_t hc14 hx9;cases hx9;(conv=>whnf);refine ⟨(), trivial, Sub.eq rfl ?_ ?_⟩
      ·(repeat ((conv=>whnf);refine nr ?_));exact trivial
      ·(conv=>whnf);refine no ?_;exact trivial
    ·rintro _ _;(conv=>whnf);refine Br.mk (fun hc16 => ?_) (fun hc16 => ?_)
     ·replace h := ite_t hc16 h;cases h
     ·replace h := ite_f hc16 h;obtain ⟨r8, hx12, h⟩ := obind h;(conv=>whnf);refine CallG.own (sortIC (k := 20) (ho := hd4) hN hx12) id [] _ (fun y => [(20, .arr hd4 3 1 false (List.map I r8))]) (all2_le_refl _) (And.intro rfl trivial) rfl (And.intro rfl trivial) trivial (fun _ => AV.le_refl _) (fun _ => rfl) ?_;rintro _ _;obtain ⟨r12, hx16, h⟩ := obind h;(conv=>whnf);refine CallG.own (rateRisingXC (ho1 := hd4) hN hx16) id [] _ (fun y => [(20, .arr hd4 3 1 false (List.map I r8))]) (all2_le_refl _) (And.intro rfl trivial) rfl (And.intro rfl trivial) trivial (fun _ => AV.le_refl _) (fun _ => rfl) ?_;rintro _ _;(conv=>whnf);refine Br.mk (fun hc18 => ?_) (fun hc18 => ?_)
      ·replace h := ite_t hc18 h;cases h
      ·replace h := ite_f hc18 h;(conv=>whnf);cases h;exact rfl
theorem rateSumC {N : Nat} (hN : N ≤ 1073741824) {l1 : List Int} {r : Int} (h : rateSum N l1 = some r) :
    ACalls Tryz.prog 33 [.d (.list 1 (List.map I l1))] [] fun e os => e = .ret (.d (I r)) ∧ os = [] := by
  refine acalls_f (fresh := false) tt_ok dr_ok ⟨[], [], [], [], [1001], 0, []⟩ Tryz.func33 rfl Tryz.call33 rfl ?_
  unfold rateSum at h
  obtain ⟨n6, hx13, h⟩ := obind h;(conv=>whnf);refine SeqG.mk Unit (fun y => [(2, .d (I n6))]) (fun y => []) (fun _ => True) ?_ ?_
  ·(conv=>whnf);refine LnA.mk _ (List.length_map _) ?_;(conv=>whnf);refine LoopG.mk (Nat × (Int × Int × Int)) (fun y => [(2, .d (I y.2.1)), (5, .d (.list 1 (List.map I l1))), (6, .d (I y.2.2.1)), (7, .d (I y.2.2.2))]) (fun y => []) (fun y => loopN (fun rr x => rateSum_b1 N l1 rr x.1 x.2.1 x.2.2) y.1 y.2 = some n6) (fun y => y.1) (N, (0, (l1.length : Int), 0)) hx13 (Sub.eq rfl ?_ ?_) ?_
   ·(repeat ((conv=>whnf);refine nr ?_));exact trivial
   ·exact trivial
   ·rintro ⟨n11, ⟨n10, v17, v18⟩⟩ hl2;obtain ⟨n11, rfl, hl2⟩ := loopN_some hl2;replace hl2 : rateSum_b1 N l1 (loopN (fun rr x => rateSum_b1 N l1 rr x.1 x.2.1 x.2.2) n11) n10 v17 v18 = some n6 := hl2;rw [rateSum_b1] at hl2;(conv=>whnf);refine Br.mk (fun hc12 => ?_) (fun hc12 => ?_)
    ·replace hl2 := ite_t hc12 hl2;obtain ⟨x24, hx25, hl2⟩ := obind hl2;(conv=>whnf);refine Side.mk rfl ⟨_, idx_0 hx25, idx_map _ hx25, ?_⟩;(conv=>whnf);refine ⟨(n11, (w64 (n10 + x24), v17, w64 (v18 + 1))), hl2, Sub.eq rfl ?_ ?_, Nat.lt_succ_self _⟩
     ·(repeat ((conv=>whnf);refine nr ?_));exact trivial
     ·exact trivial
    ·replace hl2 := ite_f hc12 hl2;cases hl2;(conv=>whnf);refine ⟨(), trivial, Sub.eq rfl ?_ ?_⟩
     ·(repeat ((conv=>whnf);refine nr ?_));exact trivial
     ·exact trivial
  ·rintro _ _;(conv=>whnf);cases h;exact rfl
theorem rateReadCountingC {N : Nat} (hN : N ≤ 1073741824) {bowler1 : Int} {before1 : Int} {c1 : Int} {c2 : Int} {c3 : Int} {c4 : Int} {c5 : Int} {c6 : List Int} {c7 : List RateSheet} {c8 : List Int} {m1 : List (RateTurn × RateSheet)} {bo1 : Nat} {bo2 : Nat} {r : Int × Int} (h : rateReadCounting N bowler1 before1 c1 c2 c3 c4 c5 c6 c7 c8 m1 = some r) :
    ACalls Tryz.prog 104 [.ptr 145019 bo1 0, .d (I bowler1), .d (I before1)] [(145019, .cells bo1 [.d (I c1), .d (I c2), .d (I c3), .d (I c4), .d (I c5), .d (.list 1 (List.map I c6)), .d (.list 6 (List.map RateSheet.enc c7)), .d (.list 1 (List.map I c8)), .mp 145017 bo2]), (145017, .map bo2 (List.map (fun p => (.agg [I p.1.fBowler, I p.1.fWeek], .agg [I p.2.fNumber, I p.2.fBowler, I p.2.fWeek, I p.2.fGames.a0, I p.2.fGames.a1, I p.2.fGames.a2])) m1))] fun ae os => ∃ y : Nat, True ∧ ae = .ret (.fn (.func 139) [] [.d (.ref (.agg [I r.1])), .ptr 1525003 y 0, .d (.ref (.agg [I r.2]))]) ∧ os = [(145019, .cells bo1 [.d (I c1), .d (I c2), .d (I c3), .d (I c4), .d (I c5), .d (.list 1 (List.map I c6)), .d (.list 6 (List.map RateSheet.enc c7)), .d (.list 1 (List.map I c8)), .mp 145017 bo2]), (145017, .map bo2 (List.map (fun p => (.agg [I p.1.fBowler, I p.1.fWeek], .agg [I p.2.fNumber, I p.2.fBowler, I p.2.fWeek, I p.2.fGames.a0, I p.2.fGames.a1, I p.2.fGames.a2])) m1)), (1525003, .cells y [.ptr 145019 bo1 0])] := by
  refine acalls_own (fresh := false) tt_ok dr_ok ⟨[4, 5], [], [], [], [], 1525000, []⟩ Tryz.func104 rfl Tryz.call104 rfl ?_
  unfold rateReadCounting at h
  (conv=>whnf);intro b2;(conv=>whnf);cases h;exact ⟨b2, trivial, rfl, inO_at (ren := id) (And.intro rfl (And.intro rfl (And.intro rfl trivial)))⟩
theorem rateReadAverageC {N : Nat} (hN : N ≤ 1073741824) {bowler1 : Int} {before1 : Int} {besides1 : List Int} {c1 : Int} {c2 : Int} {c3 : Int} {c4 : Int} {c5 : Int} {c6 : List Int} {c7 : List RateSheet} {c8 : List Int} {m1 : List (RateTurn × RateSheet)} {bo1 : Nat} {bo2 : Nat} {r : Int} (h : rateReadAverage N bowler1 before1 besides1 c1 c2 c3 c4 c5 c6 c7 c8 m1 = some r) :
    ACalls Tryz.prog 66 [.ptr 145019 bo1 0, .d (I bowler1), .d (I before1), .d (.list 1 (List.map I besides1))] [(145019, .cells bo1 [.d (I c1), .d (I c2), .d (I c3), .d (I c4), .d (I c5), .d (.list 1 (List.map I c6)), .d (.list 6 (List.map RateSheet.enc c7)), .d (.list 1 (List.map I c8)), .mp 145017 bo2]), (145017, .map bo2 (List.map (fun p => (.agg [I p.1.fBowler, I p.1.fWeek], .agg [I p.2.fNumber, I p.2.fBowler, I p.2.fWeek, I p.2.fGames.a0, I p.2.fGames.a1, I p.2.fGames.a2])) m1))] fun ae os => ∃ y : Unit, True ∧ ae = .ret (.d (I r)) ∧ os = [(145019, .cells bo1 [.d (I c1), .d (I c2), .d (I c3), .d (I c4), .d (I c5), .d (.list 1 (List.map I c6)), .d (.list 6 (List.map RateSheet.enc c7)), .d (.list 1 (List.map I c8)), .mp 145017 bo2]), (145017, .map bo2 (List.map (fun p => (.agg [I p.1.fBowler, I p.1.fWeek], .agg [I p.2.fNumber, I p.2.fBowler, I p.2.fWeek, I p.2.fGames.a0, I p.2.fGames.a1, I p.2.fGames.a2])) m1))] := by
  refine acalls_own (fresh := false) tt_ok dr_ok ⟨[], [], [], [], [1002], 150000, []⟩ Tryz.func66 rfl Tryz.call66 rfl ?_
  unfold rateReadAverage at h
  (conv=>whnf);refine LnA.mk _ (List.length_map _) ?_;obtain ⟨r2, hx2, h⟩ := obind h;(conv=>whnf);refine CallG.pure _ (rateSumC hN hx2) ?_;(conv=>whnf);intro b3;(conv=>whnf);intro b4;(conv=>whnf);refine sr ?_;(conv=>whnf);refine sr ?_;obtain ⟨c20, hx23, h⟩ := obind h;(conv=>whnf);refine SeqG.mk Unit (fun y => [(0, .ptr 145019 bo1 0), (1, .d (I bowler1)), (9, .ptr 150009 b3 0), (10, .ptr 150010 b4 0)]) (fun y => [(145019, .cells bo1 [.d (I c1), .d (I c2), .d (I c3), .d (I c4), .d (I c5), .d (.list 1 (List.map I c6)), .d (.list 6 (List.map RateSheet.enc c7)), .d (.list 1 (List.map I c8)), .mp 145017 bo2]), (150009, .cells b3 [.d (I c20)]), (150010, .cells b4 [.d (I r2)]), (145017, .map bo2 (List.map (fun p => (.agg [I p.1.fBowler, I p.1.fWeek], .agg [I p.2.fNumber, I p.2.fBowler, I p.2.fWeek, I p.2.fGames.a0, I p.2.fGames.a1, I p.2.fGames.a2])) m1))]) (fun _ => True) ?_ ?_
  ·obtain ⟨⟨ra4, rb4⟩, hx25, hx23⟩ := obind hx23;(conv=>whnf)
   refine CallG.own (rateReadCountingC (bo1 := bo1) (bo2 := bo2) hN hx25) id [(150009, .cells b3 [.d (I (besides1.length : Int))]), (150010, .cells b4 [.d (I r2)])] _ (fun y => [(145019, .cells bo1 [.d (I c1), .d (I c2), .d (I c3), .d (I c4), .d (I c5), .d (.list 1 (List.map I c6)), .d (.list 6 (List.map RateSheet.enc c7)), .d (.list 1 (List.map I c8)), .mp 145017 bo2]), (145017, .map bo2 (List.map (fun p => (.agg [I p.1.fBowler, I p.1.fWeek], .agg [I p.2.fNumber, I p.2.fBowler, I p.2.fWeek, I p.2.fGames.a0, I p.2.fGames.a1, I p.2.fGames.a2])) m1)), (1525003, .cells y [.ptr 145019 bo1 0]), (150009, .cells b3 [.d (I (besides1.length : Int))]), (150010, .cells b4 [.d (I r2)])]) (all2_le_refl _) (And.intro rfl (And.intro rfl trivial)) rfl (And.intro rfl (And.intro rfl trivial)) (And.intro rfl (And.intro rfl trivial)) (fun _ => AV.le_refl _) (fun _ => rfl) ?_;rintro b68 _;(conv=>whnf)
   intro lp2 rc2;refine IterG.mk _ _ ⟨[], [], [], [], [3], 2000, []⟩ Tryz.func139 rfl Tryz.call139 rfl rfl ?_;(conv=>whnf)
   refine LoopG.mk (Nat × (Int × Int)) (fun y => [(0, .fn (.yield lp2) [] []), (2, .ptr 1525003 b68 0), (3, .d (.ref (.agg [I rb4]))), (8, .d (I ra4)), (9, .d (I y.2.1))]) (fun y => [(1525003, .cells b68 [.ptr 145019 bo1 0]), (145019, .cells bo1 [.d (I c1), .d (I c2), .d (I c3), .d (I c4), .d (I c5), .d (.list 1 (List.map I c6)), .d (.list 6 (List.map RateSheet.enc c7)), .d (.list 1 (List.map I c8)), .mp 145017 bo2]), (150009, .cells b3 [.d (I y.2.2)]), (150010, .cells b4 [.d (I r2)]), (1000, .loop lp2 rc2 none), (145017, .map bo2 (List.map (fun p => (.agg [I p.1.fBowler, I p.1.fWeek], .agg [I p.2.fNumber, I p.2.fBowler, I p.2.fWeek, I p.2.fGames.a0, I p.2.fGames.a1, I p.2.fGames.a2])) m1))]) (fun y => loopN (fun rr x => rateReadAverage_b1 N m1 ra4 rb4 rr x.1 x.2) y.1 y.2 = some c20) (fun y => y.1) (N, (0, (besides1.length : Int))) hx23 (Sub.eq rfl ?_ ?_) ?_
   ·(repeat ((conv=>whnf);refine nr ?_));exact trivial
   ·(conv=>whnf);refine no ?_;(conv=>whnf);refine no ?_;(conv=>whnf);refine no ?_;(conv=>whnf);refine no ?_;(conv=>whnf);refine no ?_;(conv=>whnf);refine no ?_;exact trivial
   ·rintro ⟨n2, ⟨games8, c29⟩⟩ hl2;obtain ⟨n2, rfl, hl2⟩ := loopN_some hl2;replace hl2 : rateReadAverage_b1 N m1 ra4 rb4 (loopN (fun rr x => rateReadAverage_b1 N m1 ra4 rb4 rr x.1 x.2) n2) games8 c29 = some c20 := hl2;rw [rateReadAverage_b1] at hl2;(conv=>whnf);refine Br.mk (fun hc32 => ?_) (fun hc32 => ?_)
    ·replace hl2 := ite_t hc32 hl2;obtain ⟨⟨besides13, c31⟩, hx42, hl2⟩ := obind hl2;(conv=>whnf)
     refine SeqG.mk Nat (fun y => [(0, .fn (.yield lp2) [] []), (2, .ptr 1525003 b68 0), (3, .d (.ref (.agg [I rb4]))), (6, .ptr 2006 y 0), (7, .d (.bool besides13)), (8, .d (I ra4)), (9, .d (I games8))]) (fun y => [(1525003, .cells b68 [.ptr 145019 bo1 0]), (2006, .cells y [.d (I c31.fNumber), .d (I c31.fBowler), .d (I c31.fWeek), .d (I c31.fGames.a0), .d (I c31.fGames.a1), .d (I c31.fGames.a2)]), (145019, .cells bo1 [.d (I c1), .d (I c2), .d (I c3), .d (I c4), .d (I c5), .d (.list 1 (List.map I c6)), .d (.list 6 (List.map RateSheet.enc c7)), .d (.list 1 (List.map I c8)), .mp 145017 bo2]), (150009, .cells b3 [.d (I c29)]), (150010, .cells b4 [.d (I r2)]), (1000, .loop lp2 rc2 none), (145017, .map bo2 (List.map (fun p => (.agg [I p.1.fBowler, I p.1.fWeek], .agg [I p.2.fNumber, I p.2.fBowler, I p.2.fWeek, I p.2.fGames.a0, I p.2.fGames.a1, I p.2.fGames.a2])) m1))]) (fun _ => True) ?_ ?_
     ·obtain ⟨⟨v24, is24⟩, hx43, hx42⟩ := obind hx42;(conv=>whnf);refine DrawG.mk (.take 0 (.take 1 (.take 2 (.take 3 (.take 4 (.take 5 (.alt 6 [3, 2, 1, 0] (.alt 7 [2, 1, 0] (.take 8 (.take 9 (.take 10 (.alt 11 [10, 9, 8, 2, 1, 0] (.alt 12 [10] (.take 13 .done) .nil) .nil)))) (.alt 11 [3, 2, 1, 0] (.alt 7 [2, 1, 0] (.take 8 (.take 9 (.take 10 (.alt 12 [10] (.take 13 .done) .nil)))) .nil) .nil)) (.alt 11 [5, 4, 3, 2, 1, 0] (.alt 6 [3, 2, 1, 0] (.alt 7 [2, 1, 0] (.take 8 (.take 9 (.take 10 (.alt 12 [10] (.take 13 .done) .nil)))) .nil) .nil) .nil)))))))) (by kernel_rfl) ?_;(conv=>whnf);refine sr ?_;(conv=>whnf);refine sr ?_;(conv=>whnf);refine Both.mk ?_ ?_
      ·(conv=>whnf);refine sr ?_;(conv=>whnf);refine nl ?_;(conv=>whnf);refine nl ?_;(conv=>whnf);refine nl ?_;(conv=>whnf);refine sr ?_;(conv=>whnf);refine nl ?_;(conv=>whnf);refine Both.mk ?_ ?_
       ·(conv=>whnf);refine Side.mk rfl (Need.mk rfl (Need.mk (fit_all (m := m1) (fun x : RateTurn => .agg [I x.fBowler, I x.fWeek]) (fun x : RateSheet => .agg [I x.fNumber, I x.fBowler, I x.fWeek, I x.fGames.a0, I x.fGames.a1, I x.fGames.a2]) fun _ => rfl) (LkG.mk (.agg [I v24.fNumber, I v24.fBowler, I v24.fWeek, I v24.fGames.a0, I v24.fGames.a1, I v24.fGames.a2]) is24 (mgt_v (eK := (fun x : RateTurn => .agg [I x.fBowler, I x.fWeek])) (eV := (fun x : RateSheet => .agg [I x.fNumber, I x.fBowler, I x.fWeek, I x.fGames.a0, I x.fGames.a1, I x.fGames.a2])) RateTurn.eqc hx43) (mgt_b (eK := (fun x : RateTurn => .agg [I x.fBowler, I x.fWeek])) (eV := (fun x : RateSheet => .agg [I x.fNumber, I x.fBowler, I x.fWeek, I x.fGames.a0, I x.fGames.a1, I x.fGames.a2])) RateTurn.eqc hx43) ?_)));(conv=>whnf);refine nl ?_;(conv=>whnf);refine nl ?_;(conv=>whnf);refine sr ?_;(conv=>whnf);refine nl ?_
        (conv=>whnf);refine Both.mk ?_ trivial;(conv=>whnf);intro b124;(conv=>whnf);refine nl ?_;(conv=>whnf);refine nl ?_;(conv=>whnf);refine nl ?_;(conv=>whnf);refine nl ?_;(conv=>whnf);refine nl ?_;(conv=>whnf);refine sr ?_;(conv=>whnf);refine nl ?_;(conv=>whnf);refine Both.mk ?_ trivial;(conv=>whnf);refine sr ?_;(conv=>whnf);refine nl ?_;cases hx42;(conv=>whnf);refine ⟨b124, trivial, Sub.eq rfl ?_ ?_⟩
        ·(repeat ((conv=>whnf);refine nr ?_));exact trivial
        ·(conv=>whnf);refine no ?_;(conv=>whnf);refine no ?_;(conv=>whnf);refine no ?_;(conv=>whnf);refine no ?_;(conv=>whnf);refine no ?_;(conv=>whnf);refine no ?_;(conv=>whnf);refine no ?_;exact trivial
       ·(conv=>whnf);refine Both.mk ?_ trivial;(conv=>whnf);intro b125;(conv=>whnf);refine sr ?_;(conv=>whnf);refine nl ?_;(conv=>whnf);refine nl ?_;(conv=>whnf);refine nl ?_;(conv=>whnf);refine sr ?_;(conv=>whnf);refine nl ?_;(conv=>whnf);refine Both.mk ?_ trivial;(conv=>whnf)
        refine Side.mk rfl (Need.mk rfl (Need.mk (fit_all (m := m1) (fun x : RateTurn => .agg [I x.fBowler, I x.fWeek]) (fun x : RateSheet => .agg [I x.fNumber, I x.fBowler, I x.fWeek, I x.fGames.a0, I x.fGames.a1, I x.fGames.a2]) fun _ => rfl) (LkG.mk (.agg [I v24.fNumber, I v24.fBowler, I v24.fWeek, I v24.fGames.a0, I v24.fGames.a1, I v24.fGames.a2]) is24 (mgt_v (eK := (fun x : RateTurn => .agg [I x.fBowler, I x.fWeek])) (eV := (fun x : RateSheet => .agg [I x.fNumber, I x.fBowler, I x.fWeek, I x.fGames.a0, I x.fGames.a1, I x.fGames.a2])) RateTurn.eqc hx43) (mgt_b (eK := (fun x : RateTurn => .agg [I x.fBowler, I x.fWeek])) (eV := (fun x : RateSheet => .agg [I x.fNumber, I x.fBowler, I x.fWeek, I x.fGames.a0, I x.fGames.a1, I x.fGames.a2])) RateTurn.eqc hx43) ?_)));(conv=>whnf);refine nl ?_;(conv=>whnf);refine nl ?_;(conv=>whnf);refine sr ?_;(conv=>whnf);refine nl ?_;(conv=>whnf)
        refine Both.mk ?_ trivial;(conv=>whnf);refine sr ?_;(conv=>whnf);refine nl ?_;cases hx42;(conv=>whnf);refine ⟨b125, trivial, Sub.eq rfl ?_ ?_⟩
        ·(repeat ((conv=>whnf);refine nr ?_));exact trivial
        ·(conv=>whnf);refine no ?_;(conv=>whnf);refine no ?_;(conv=>whnf);refine no ?_;(conv=>whnf);refine no ?_;(conv=>whnf);refine no ?_;(conv=>whnf);refine no ?_;(conv=>whnf);refine no ?_;exact trivial
      ·(conv=>whnf);refine Both.mk ?_ trivial;(conv=>whnf);intro b126;(conv=>whnf);refine nl ?_;(conv=>whnf);refine nl ?_;(conv=>whnf);refine sr ?_;(conv=>whnf);refine nl ?_;(conv=>whnf);refine nl ?_;(conv=>whnf);refine nl ?_;(conv=>whnf);refine sr ?_;(conv=>whnf);refine nl ?_;(conv=>whnf);refine Both.mk ?_ trivial;(conv=>whnf);refine sr ?_;(conv=>whnf);refine nl ?_;(conv=>whnf);refine nl ?_;(conv=>whnf);refine nl ?_;(conv=>whnf);refine sr ?_;(conv=>whnf);refine nl ?_;(conv=>whnf);refine Both.mk ?_ trivial;(conv=>whnf)
       refine Side.mk rfl (Need.mk rfl (Need.mk (fit_all (m := m1) (fun x : RateTurn => .agg [I x.fBowler, I x.fWeek]) (fun x : RateSheet => .agg [I x.fNumber, I x.fBowler, I x.fWeek, I x.fGames.a0, I x.fGames.a1, I x.fGames.a2]) fun _ => rfl) (LkG.mk (.agg [I v24.fNumber, I v24.fBowler, I v24.fWeek, I v24.fGames.a0, I v24.fGames.a1, I v24.fGames.a2]) is24 (mgt_v (eK := (fun x : RateTurn => .agg [I x.fBowler, I x.fWeek])) (eV := (fun x : RateSheet => .agg [I x.fNumber, I x.fBowler, I x.fWeek, I x.fGames.a0, I x.fGames.a1, I x.fGames.a2])) RateTurn.eqc hx43) (mgt_b (eK := (fun x : RateTurn => .agg [I x.fBowler, I x.fWeek])) (eV := (fun x : RateSheet => .agg [I x.fNumber, I x.fBowler, I x.fWeek, I x.fGames.a0, I x.fGames.a1, I x.fGames.a2])) RateTurn.eqc hx43) ?_)));(conv=>whnf);refine nl ?_;(conv=>whnf);refine nl ?_;(conv=>whnf);refine sr ?_;(conv=>whnf);refine nl ?_;(conv=>whnf)
       refine Both.mk ?_ trivial;(conv=>whnf);refine sr ?_;(conv=>whnf);refine nl ?_;cases hx42;(conv=>whnf);refine ⟨b126, trivial, Sub.eq rfl ?_ ?_⟩
       ·(repeat ((conv=>whnf);refine nr ?_));exact trivial
       ·(conv=>whnf);refine no ?_;(conv=>whnf);refine no ?_;(conv=>whnf);refine no ?_;(conv=>whnf);refine no ?_;(conv=>whnf);refine no ?_;(conv=>whnf);refine no ?_;(conv=>whnf);refine no ?_;exact trivial
     ·rintro bb12 _;(conv=>whnf);refine Br.mk (fun hc36 => ?_) (fun hc36 => ?_)
      ·replace hl2 := ite_t hc36 hl2;(conv=>whnf);refine sr ?_;(conv=>whnf);refine Side.mk ⟨rfl, rfl, rfl⟩ ?_;(conv=>whnf);intro b128;(conv=>whnf);refine sr ?_;cases hl2
      ·replace hl2 := ite_f hc36 hl2;(conv=>whnf);refine ⟨(n2, (w64 (games8 + 1), c29)), hl2, Sub.eq rfl ?_ ?_, Nat.lt_succ_self _⟩
       ·(repeat ((conv=>whnf);refine nr ?_));exact trivial
       ·(conv=>whnf);refine no ?_;(conv=>whnf);refine no ?_;(conv=>whnf);refine no ?_;(conv=>whnf);refine no ?_;(conv=>whnf);refine no ?_;(conv=>whnf);refine no ?_;exact trivial
    ·replace hl2 := ite_f hc32 hl2;(conv=>whnf);refine Side.mk ⟨rfl, rfl⟩ ?_;cases hl2;(conv=>whnf);refine ⟨(), trivial, Sub.eq rfl ?_ ?_⟩
     ·(repeat ((conv=>whnf);refine nr ?_));exact trivial
     ·(conv=>whnf);refine no ?_;(conv=>whnf);refine no ?_;(conv=>whnf);refine no ?_;(conv=>whnf);refine no ?_;exact trivial
  ·rintro _ _;(conv=>whnf);refine DrawG.mk (.take 0 (.take 1 (.take 2 (.take 3 (.take 4 (.take 5 (.take 6 (.take 7 .done)))))))) (by kernel_rfl) ?_;(conv=>whnf);refine sr ?_;(conv=>whnf);refine sr ?_;(conv=>whnf);refine Br.mk (fun hc38 => ?_) (fun hc38 => ?_)
   ·replace h := ite_t hc38 h;(conv=>whnf);refine sr ?_;obtain ⟨x4, hx47, h⟩ := obind h;(conv=>whnf);refine Side.mk rfl ⟨_, idx_0 hx47, idx_map _ hx47, ?_⟩;(conv=>whnf);cases h;exact ⟨(), trivial, rfl, inO_at (ren := id) (And.intro rfl (And.intro rfl trivial))⟩
   ·replace h := ite_f hc38 h;cases h
theorem rateReadHandicapC {N : Nat} (hN : N ≤ 1073741824) {bowler1 : Int} {before1 : Int} {c1 : Int} {c2 : Int} {c3 : Int} {c4 : Int} {c5 : Int} {c6 : List Int} {c7 : List RateSheet} {c8 : List Int} {m1 : List (RateTurn × RateSheet)} {bo1 : Nat} {bo2 : Nat} {r : Int} (h : rateReadHandicap N bowler1 before1 c1 c2 c3 c4 c5 c6 c7 c8 m1 = some r) :
    ACalls Tryz.prog 67 [.ptr 145019 bo1 0, .d (I bowler1), .d (I before1)] [(145019, .cells bo1 [.d (I c1), .d (I c2), .d (I c3), .d (I c4), .d (I c5), .d (.list 1 (List.map I c6)), .d (.list 6 (List.map RateSheet.enc c7)), .d (.list 1 (List.map I c8)), .mp 145017 bo2]), (145017, .map bo2 (List.map (fun p => (.agg [I p.1.fBowler, I p.1.fWeek], .agg [I p.2.fNumber, I p.2.fBowler, I p.2.fWeek, I p.2.fGames.a0, I p.2.fGames.a1, I p.2.fGames.a2])) m1))] fun ae os => ∃ y : Unit, True ∧ ae = .ret (.d (I r)) ∧ os = [(145019, .cells bo1 [.d (I c1), .d (I c2), .d (I c3), .d (I c4), .d (I c5), .d (.list 1 (List.map I c6)), .d (.list 6 (List.map RateSheet.enc c7)), .d (.list 1 (List.map I c8)), .mp 145017 bo2]), (145017, .map bo2 (List.map (fun p => (.agg [I p.1.fBowler, I p.1.fWeek], .agg [I p.2.fNumber, I p.2.fBowler, I p.2.fWeek, I p.2.fGames.a0, I p.2.fGames.a1, I p.2.fGames.a2])) m1))] := by
  refine acalls_own (fresh := false) tt_ok dr_ok ⟨[], [], [], [], [], 150000, []⟩ Tryz.func67 rfl Tryz.call67 rfl ?_
  unfold rateReadHandicap at h
  obtain ⟨r2, hx2, h⟩ := obind h;(conv=>whnf);refine DrawG.mk (.take 0 (.take 1 (.take 2 (.take 3 (.take 4 (.take 5 (.take 6 (.take 7 (.take 8 (.take 11 (.take 12 (.take 13 (.take 14 (.take 15 (.take 16 (.alt 9 [16, 15, 14, 13, 12, 11, 5, 4, 3, 2, 1, 0] (.take 10 (.take 17 (.take 18 (.take 19 .done)))) .nil)))))))))))))))) (by kernel_rfl) ?_;(conv=>whnf);refine sr ?_;(conv=>whnf);refine sr ?_;(conv=>whnf);refine Both.mk ?_ trivial;(conv=>whnf)
  refine CallG.own (rateReadAverageC (bo1 := bo1) (bo2 := bo2) hN hx2) id [] _ (fun y => [(145019, .cells bo1 [.d (I c1), .d (I c2), .d (I c3), .d (I c4), .d (I c5), .d (.list 1 (List.map I c6)), .d (.list 6 (List.map RateSheet.enc c7)), .d (.list 1 (List.map I c8)), .mp 145017 bo2]), (145017, .map bo2 (List.map (fun p => (.agg [I p.1.fBowler, I p.1.fWeek], .agg [I p.2.fNumber, I p.2.fBowler, I p.2.fWeek, I p.2.fGames.a0, I p.2.fGames.a1, I p.2.fGames.a2])) m1))]) (all2_le_refl _) (And.intro rfl (And.intro rfl trivial)) rfl (And.intro rfl (And.intro rfl trivial)) trivial (fun _ => AV.le_refl _) (fun _ => rfl) ?_;rintro _ _;(conv=>whnf);refine sr ?_;(conv=>whnf);refine nl ?_;(conv=>whnf);refine nl ?_;(conv=>whnf);refine nl ?_;(conv=>whnf);refine nl ?_;(conv=>whnf);refine nl ?_;(conv=>whnf);refine nl ?_;(conv=>whnf);refine sr ?_;(conv=>whnf);refine nl ?_;(conv=>whnf);refine nl ?_
  (conv=>whnf);refine nl ?_;(conv=>whnf);refine nl ?_;(conv=>whnf);refine nl ?_;(conv=>whnf);refine nl ?_;(conv=>whnf);refine Need.mk (by decide) ?_;(conv=>whnf);refine sr ?_;(conv=>whnf);cases h;exact ⟨(), trivial, rfl, inO_at (ren := id) (And.intro rfl (And.intro rfl trivial))⟩
theorem rateReadMakesC {N : Nat} (hN : N ≤ 1073741824) {bowler1 : Int} {w1 : Int} {c1 : Int} {c2 : Int} {c3 : Int} {c4 : Int} {c5 : Int} {c6 : List Int} {c7 : List RateSheet} {c8 : List Int} {m1 : List (RateTurn × RateSheet)} {bo1 : Nat} {bo2 : Nat} {r : (Ar3 Int)} (h : rateReadMakes N bowler1 w1 c1 c2 c3 c4 c5 c6 c7 c8 m1 = some r) :
    ACalls Tryz.prog 32 [.ptr 145019 bo1 0, .d (I bowler1), .d (I w1)] [(145019, .cells bo1 [.d (I c1), .d (I c2), .d (I c3), .d (I c4), .d (I c5), .d (.list 1 (List.map I c6)), .d (.list 6 (List.map RateSheet.enc c7)), .d (.list 1 (List.map I c8)), .mp 145017 bo2]), (145017, .map bo2 (List.map (fun p => (.agg [I p.1.fBowler, I p.1.fWeek], .agg [I p.2.fNumber, I p.2.fBowler, I p.2.fWeek, I p.2.fGames.a0, I p.2.fGames.a1, I p.2.fGames.a2])) m1))] fun ae os => ∃ y : Unit, True ∧ ae = .ret (.d (.agg [I r.a0, I r.a1, I r.a2])) ∧ os = [(145019, .cells bo1 [.d (I c1), .d (I c2), .d (I c3), .d (I c4), .d (I c5), .d (.list 1 (List.map I c6)), .d (.list 6 (List.map RateSheet.enc c7)), .d (.list 1 (List.map I c8)), .mp 145017 bo2]), (145017, .map bo2 (List.map (fun p => (.agg [I p.1.fBowler, I p.1.fWeek], .agg [I p.2.fNumber, I p.2.fBowler, I p.2.fWeek, I p.2.fGames.a0, I p.2.fGames.a1, I p.2.fGames.a2])) m1))] := by
  refine acalls_own (fresh := false) tt_ok dr_ok ⟨[], [], [], [], [], 150000, []⟩ Tryz.func32 rfl Tryz.call32 rfl ?_
  unfold rateReadMakes at h
  (conv=>whnf);intro b2;(conv=>whnf);refine sr ?_;obtain ⟨⟨v2, is2⟩, hx2, h⟩ := obind h;(conv=>whnf);refine Side.mk rfl (Need.mk rfl (Need.mk (fit_all (m := m1) (fun x : RateTurn => .agg [I x.fBowler, I x.fWeek]) (fun x : RateSheet => .agg [I x.fNumber, I x.fBowler, I x.fWeek, I x.fGames.a0, I x.fGames.a1, I x.fGames.a2]) fun _ => rfl) (LkG.mk (.agg [I v2.fNumber, I v2.fBowler, I v2.fWeek, I v2.fGames.a0, I v2.fGames.a1, I v2.fGames.a2]) is2 (mgt_v (eK := (fun x : RateTurn => .agg [I x.fBowler, I x.fWeek])) (eV := (fun x : RateSheet => .agg [I x.fNumber, I x.fBowler, I x.fWeek, I x.fGames.a0, I x.fGames.a1, I x.fGames.a2])) RateTurn.eqc hx2) (mgt_b (eK := (fun x : RateTurn => .agg [I x.fBowler, I x.fWeek])) (eV := (fun x : RateSheet => .agg [I x.fNumber, I x.fBowler, I x.fWeek, I x.fGames.a0, I x.fGames.a1, I x.fGames.a2])) RateTurn.eqc hx2) ?_)));(conv=>whnf);intro b4;(conv=>whnf)
  refine sr ?_;(conv=>whnf);refine LoopG.unr 4 ?_;obtain ⟨r23, hx25, h⟩ := obind h;(conv=>whnf);refine DrawG.mk (.take 0 (.take 1 (.take 2 (.take 3 (.take 5 (.take 6 (.take 7 (.take 8 (.take 9 (.take 10 (.alt 4 [10, 9, 8, 7, 6, 5, 0] (.take 11 (.take 12 (.take 13 (.alt 14 [] .done .nil)))) .nil))))))))))) (by kernel_rfl) ?_;(conv=>whnf);refine sr ?_;(conv=>whnf);refine Both.mk ?_ trivial;(conv=>whnf)
  refine CallG.own (rateReadAverageC (bo1 := bo1) (bo2 := bo2) hN hx25) id [(150006, .cells b2 [.d (I 0), .d (I 0), .d (I 0)]), (150007, .cells b4 [.d (I v2.fNumber), .d (I v2.fBowler), .d (I v2.fWeek), .d (I v2.fGames.a0), .d (I v2.fGames.a1), .d (I v2.fGames.a2)])] _ (fun y => [(145019, .cells bo1 [.d (I c1), .d (I c2), .d (I c3), .d (I c4), .d (I c5), .d (.list 1 (List.map I c6)), .d (.list 6 (List.map RateSheet.enc c7)), .d (.list 1 (List.map I c8)), .mp 145017 bo2]), (145017, .map bo2 (List.map (fun p => (.agg [I p.1.fBowler, I p.1.fWeek], .agg [I p.2.fNumber, I p.2.fBowler, I p.2.fWeek, I p.2.fGames.a0, I p.2.fGames.a1, I p.2.fGames.a2])) m1)), (150006, .cells b2 [.d (I 0), .d (I 0), .d (I 0)]), (150007, .cells b4 [.d (I v2.fNumber), .d (I v2.fBowler), .d (I v2.fWeek), .d (I v2.fGames.a0), .d (I v2.fGames.a1), .d (I v2.fGames.a2)])]) (all2_le_refl _) (And.intro rfl (And.intro rfl trivial)) rfl (And.intro rfl (And.intro rfl trivial)) (And.intro rfl (And.intro rfl trivial)) (fun _ => AV.le_refl _) (fun _ => rfl) ?_
  rintro _ _;(conv=>whnf);refine sr ?_;(conv=>whnf);refine nl ?_;(conv=>whnf);refine nl ?_;(conv=>whnf);refine nl ?_;(conv=>whnf);refine nl ?_;(conv=>whnf);refine nl ?_;(conv=>whnf);refine nl ?_;(conv=>whnf);refine nl ?_;(conv=>whnf);refine IxG.mk 0 rfl (by decide) ?_;(conv=>whnf);refine Both.mk ?_ trivial;(conv=>whnf);refine sr ?_;(conv=>whnf);refine Br.mk (fun hc16 => ?_) (fun hc16 => ?_)
  ·replace h := ite_t hc16 h;cases h
  ·replace h := ite_f hc16 h;obtain ⟨r24, hx26, h⟩ := obind h;(conv=>whnf);refine DrawG.mk (.take 0 (.take 1 (.take 2 (.take 3 (.take 4 (.take 5 (.alt 6 [2, 1, 0] (.take 7 (.take 8 (.alt 9 [] .done .nil))) .nil))))))) (by kernel_rfl) ?_;(conv=>whnf);refine IxG.mk 0 rfl (by decide) ?_;(conv=>whnf);refine sr ?_;(conv=>whnf);refine Both.mk ?_ trivial;(conv=>whnf)
   refine CallG.own (rateReadHandicapC (bo1 := bo1) (bo2 := bo2) hN hx26) id [(150006, .cells b2 [.d (I (max 0 (w64 (r23 - c5)))), .d (I 0), .d (I 0)]), (150007, .cells b4 [.d (I v2.fNumber), .d (I v2.fBowler), .d (I v2.fWeek), .d (I v2.fGames.a0), .d (I v2.fGames.a1), .d (I v2.fGames.a2)])] _ (fun y => [(145019, .cells bo1 [.d (I c1), .d (I c2), .d (I c3), .d (I c4), .d (I c5), .d (.list 1 (List.map I c6)), .d (.list 6 (List.map RateSheet.enc c7)), .d (.list 1 (List.map I c8)), .mp 145017 bo2]), (145017, .map bo2 (List.map (fun p => (.agg [I p.1.fBowler, I p.1.fWeek], .agg [I p.2.fNumber, I p.2.fBowler, I p.2.fWeek, I p.2.fGames.a0, I p.2.fGames.a1, I p.2.fGames.a2])) m1)), (150006, .cells b2 [.d (I (max 0 (w64 (r23 - c5)))), .d (I 0), .d (I 0)]), (150007, .cells b4 [.d (I v2.fNumber), .d (I v2.fBowler), .d (I v2.fWeek), .d (I v2.fGames.a0), .d (I v2.fGames.a1), .d (I v2.fGames.a2)])]) (all2_le_refl _) (And.intro rfl (And.intro rfl trivial)) rfl (And.intro rfl (And.intro rfl trivial)) (And.intro rfl (And.intro rfl trivial)) (fun _ => AV.le_refl _) (fun _ => rfl) ?_
   rintro _ _;(conv=>whnf);refine sr ?_;(conv=>whnf);refine nl ?_;(conv=>whnf);refine IxG.mk 0 rfl (by decide) ?_;(conv=>whnf);refine nl ?_;(conv=>whnf);refine nl ?_;(conv=>whnf);refine IxG.mk 0 rfl (by decide) ?_;(conv=>whnf);refine Both.mk ?_ trivial;(conv=>whnf);refine sr ?_;obtain ⟨r29, hx31, h⟩ := obind h;(conv=>whnf);refine DrawG.mk (.take 0 (.take 1 (.take 2 (.take 3 (.take 5 (.take 6 (.take 7 (.take 8 (.take 9 (.take 10 (.alt 4 [10, 9, 8, 7, 6, 5, 0] (.take 11 (.take 12 (.take 13 (.alt 14 [] .done .nil)))) .nil))))))))))) (by kernel_rfl) ?_;(conv=>whnf);refine sr ?_;(conv=>whnf);refine Both.mk ?_ trivial;(conv=>whnf)
   refine CallG.own (rateReadAverageC (bo1 := bo1) (bo2 := bo2) hN hx31) id [(150006, .cells b2 [.d (I (w64 ((max 0 (w64 (r23 - c5))) + r24))), .d (I 0), .d (I 0)]), (150007, .cells b4 [.d (I v2.fNumber), .d (I v2.fBowler), .d (I v2.fWeek), .d (I v2.fGames.a0), .d (I v2.fGames.a1), .d (I v2.fGames.a2)])] _ (fun y => [(145019, .cells bo1 [.d (I c1), .d (I c2), .d (I c3), .d (I c4), .d (I c5), .d (.list 1 (List.map I c6)), .d (.list 6 (List.map RateSheet.enc c7)), .d (.list 1 (List.map I c8)), .mp 145017 bo2]), (145017, .map bo2 (List.map (fun p => (.agg [I p.1.fBowler, I p.1.fWeek], .agg [I p.2.fNumber, I p.2.fBowler, I p.2.fWeek, I p.2.fGames.a0, I p.2.fGames.a1, I p.2.fGames.a2])) m1)), (150006, .cells b2 [.d (I (w64 ((max 0 (w64 (r23 - c5))) + r24))), .d (I 0), .d (I 0)]), (150007, .cells b4 [.d (I v2.fNumber), .d (I v2.fBowler), .d (I v2.fWeek), .d (I v2.fGames.a0), .d (I v2.fGames.a1), .d (I v2.fGames.a2)])]) (all2_le_refl _) (And.intro rfl (And.intro rfl trivial)) rfl (And.intro rfl (And.intro rfl trivial)) (And.intro rfl (And.intro rfl trivial)) (fun _ => AV.le_refl _) (fun _ => rfl) ?_
   rintro _ _;(conv=>whnf);refine sr ?_;(conv=>whnf);refine nl ?_;(conv=>whnf);refine nl ?_;(conv=>whnf);refine nl ?_;(conv=>whnf);refine nl ?_;(conv=>whnf);refine nl ?_;(conv=>whnf);refine nl ?_;(conv=>whnf);refine nl ?_;(conv=>whnf);refine IxG.mk 1 rfl (by decide) ?_;(conv=>whnf);refine Both.mk ?_ trivial;(conv=>whnf);refine sr ?_;(conv=>whnf);refine Br.mk (fun hc20 => ?_) (fun hc20 => ?_)
   ·replace h := ite_t hc20 h;cases h
   ·replace h := ite_f hc20 h;obtain ⟨r30, hx32, h⟩ := obind h;(conv=>whnf);refine DrawG.mk (.take 0 (.take 1 (.take 2 (.take 3 (.take 4 (.take 5 (.alt 6 [2, 1, 0] (.take 7 (.take 8 (.alt 9 [] .done .nil))) .nil))))))) (by kernel_rfl) ?_;(conv=>whnf);refine IxG.mk 1 rfl (by decide) ?_;(conv=>whnf);refine sr ?_;(conv=>whnf);refine Both.mk ?_ trivial;(conv=>whnf)
    refine CallG.own (rateReadHandicapC (bo1 := bo1) (bo2 := bo2) hN hx32) id [(150006, .cells b2 [.d (I (w64 ((max 0 (w64 (r23 - c5))) + r24))), .d (I (max 0 (w64 (r29 - c5)))), .d (I 0)]), (150007, .cells b4 [.d (I v2.fNumber), .d (I v2.fBowler), .d (I v2.fWeek), .d (I v2.fGames.a0), .d (I v2.fGames.a1), .d (I v2.fGames.a2)])] _ (fun y => [(145019, .cells bo1 [.d (I c1), .d (I c2), .d (I c3), .d (I c4), .d (I c5), .d (.list 1 (List.map I c6)), .d (.list 6 (List.map RateSheet.enc c7)), .d (.list 1 (List.map I c8)), .mp 145017 bo2]), (145017, .map bo2 (List.map (fun p => (.agg [I p.1.fBowler, I p.1.fWeek], .agg [I p.2.fNumber, I p.2.fBowler, I p.2.fWeek, I p.2.fGames.a0, I p.2.fGames.a1, I p.2.fGames.a2])) m1)), (150006, .cells b2 [.d (I (w64 ((max 0 (w64 (r23 - c5))) + r24))), .d (I (max 0 (w64 (r29 - c5)))), .d (I 0)]), (150007, .cells b4 [.d (I v2.fNumber), .d (I v2.fBowler), .d (I v2.fWeek), .d (I v2.fGames.a0), .d (I v2.fGames.a1), .d (I v2.fGames.a2)])]) (all2_le_refl _) (And.intro rfl (And.intro rfl trivial)) rfl (And.intro rfl (And.intro rfl trivial)) (And.intro rfl (And.intro rfl trivial)) (fun _ => AV.le_refl _) (fun _ => rfl) ?_
    rintro _ _;(conv=>whnf);refine sr ?_;(conv=>whnf);refine nl ?_;(conv=>whnf);refine IxG.mk 1 rfl (by decide) ?_;(conv=>whnf);refine nl ?_;(conv=>whnf);refine nl ?_;(conv=>whnf);refine IxG.mk 1 rfl (by decide) ?_;(conv=>whnf);refine Both.mk ?_ trivial;(conv=>whnf);refine sr ?_;obtain ⟨r35, hx37, h⟩ := obind h;(conv=>whnf);refine DrawG.mk (.take 0 (.take 1 (.take 2 (.take 3 (.take 5 (.take 6 (.take 7 (.take 8 (.take 9 (.take 10 (.alt 4 [10, 9, 8, 7, 6, 5, 0] (.take 11 (.take 12 (.take 13 (.alt 14 [] .done .nil)))) .nil))))))))))) (by kernel_rfl) ?_;(conv=>whnf);refine sr ?_;(conv=>whnf);refine Both.mk ?_ trivial;(conv=>whnf)
    refine CallG.own (rateReadAverageC (bo1 := bo1) (bo2 := bo2) hN hx37) id [(150006, .cells b2 [.d (I (w64 ((max 0 (w64 (r23 - c5))) + r24))), .d (I (w64 ((max 0 (w64 (r29 - c5))) + r30))), .d (I 0)]), (150007, .cells b4 [.d (I v2.fNumber), .d (I v2.fBowler), .d (I v2.fWeek), .d (I v2.fGames.a0), .d (I v2.fGames.a1), .d (I v2.fGames.a2)])] _ (fun y => [(145019, .cells bo1 [.d (I c1), .d (I c2), .d (I c3), .d (I c4), .d (I c5), .d (.list 1 (List.map I c6)), .d (.list 6 (List.map RateSheet.enc c7)), .d (.list 1 (List.map I c8)), .mp 145017 bo2]), (145017, .map bo2 (List.map (fun p => (.agg [I p.1.fBowler, I p.1.fWeek], .agg [I p.2.fNumber, I p.2.fBowler, I p.2.fWeek, I p.2.fGames.a0, I p.2.fGames.a1, I p.2.fGames.a2])) m1)), (150006, .cells b2 [.d (I (w64 ((max 0 (w64 (r23 - c5))) + r24))), .d (I (w64 ((max 0 (w64 (r29 - c5))) + r30))), .d (I 0)]), (150007, .cells b4 [.d (I v2.fNumber), .d (I v2.fBowler), .d (I v2.fWeek), .d (I v2.fGames.a0), .d (I v2.fGames.a1), .d (I v2.fGames.a2)])]) (all2_le_refl _) (And.intro rfl (And.intro rfl trivial)) rfl (And.intro rfl (And.intro rfl trivial)) (And.intro rfl (And.intro rfl trivial)) (fun _ => AV.le_refl _) (fun _ => rfl) ?_
    rintro _ _;(conv=>whnf);refine sr ?_;(conv=>whnf);refine nl ?_;(conv=>whnf);refine nl ?_;(conv=>whnf);refine nl ?_;(conv=>whnf);refine nl ?_;(conv=>whnf);refine nl ?_;(conv=>whnf);refine nl ?_;(conv=>whnf);refine nl ?_;(conv=>whnf);refine IxG.mk 2 rfl (by decide) ?_;(conv=>whnf);refine Both.mk ?_ trivial;(conv=>whnf);refine sr ?_;(conv=>whnf);refine Br.mk (fun hc24 => ?_) (fun hc24 => ?_)
    ·replace h := ite_t hc24 h;cases h
    ·replace h := ite_f hc24 h;obtain ⟨r36, hx38, h⟩ := obind h;(conv=>whnf);refine DrawG.mk (.take 0 (.take 1 (.take 2 (.take 3 (.take 4 (.take 5 (.alt 6 [2, 1, 0] (.take 7 (.take 8 (.alt 9 [] .done .nil))) .nil))))))) (by kernel_rfl) ?_;(conv=>whnf);refine IxG.mk 2 rfl (by decide) ?_;(conv=>whnf);refine sr ?_;(conv=>whnf);refine Both.mk ?_ trivial;(conv=>whnf)
     refine CallG.own (rateReadHandicapC (bo1 := bo1) (bo2 := bo2) hN hx38) id [(150006, .cells b2 [.d (I (w64 ((max 0 (w64 (r23 - c5))) + r24))), .d (I (w64 ((max 0 (w64 (r29 - c5))) + r30))), .d (I (max 0 (w64 (r35 - c5))))]), (150007, .cells b4 [.d (I v2.fNumber), .d (I v2.fBowler), .d (I v2.fWeek), .d (I v2.fGames.a0), .d (I v2.fGames.a1), .d (I v2.fGames.a2)])] _ (fun y => [(145019, .cells bo1 [.d (I c1), .d (I c2), .d (I c3), .d (I c4), .d (I c5), .d (.list 1 (List.map I c6)), .d (.list 6 (List.map RateSheet.enc c7)), .d (.list 1 (List.map I c8)), .mp 145017 bo2]), (145017, .map bo2 (List.map (fun p => (.agg [I p.1.fBowler, I p.1.fWeek], .agg [I p.2.fNumber, I p.2.fBowler, I p.2.fWeek, I p.2.fGames.a0, I p.2.fGames.a1, I p.2.fGames.a2])) m1)), (150006, .cells b2 [.d (I (w64 ((max 0 (w64 (r23 - c5))) + r24))), .d (I (w64 ((max 0 (w64 (r29 - c5))) + r30))), .d (I (max 0 (w64 (r35 - c5))))]), (150007, .cells b4 [.d (I v2.fNumber), .d (I v2.fBowler), .d (I v2.fWeek), .d (I v2.fGames.a0), .d (I v2.fGames.a1), .d (I v2.fGames.a2)])]) (all2_le_refl _) (And.intro rfl (And.intro rfl trivial)) rfl (And.intro rfl (And.intro rfl trivial)) (And.intro rfl (And.intro rfl trivial)) (fun _ => AV.le_refl _) (fun _ => rfl) ?_
     rintro _ _;(conv=>whnf);refine sr ?_;(conv=>whnf);refine nl ?_;(conv=>whnf);refine IxG.mk 2 rfl (by decide) ?_;(conv=>whnf);refine nl ?_;(conv=>whnf);refine nl ?_;(conv=>whnf);refine IxG.mk 2 rfl (by decide) ?_;(conv=>whnf);refine Both.mk ?_ trivial;(conv=>whnf);refine sr ?_;(conv=>whnf);refine sr ?_;(conv=>whnf);refine sr ?_;(conv=>whnf);refine sr ?_;(conv=>whnf);cases h;exact ⟨(), trivial, rfl, inO_at (ren := id) (And.intro rfl (And.intro rfl trivial))⟩
theorem rateMatch1C {N : Nat} (hN : N ≤ 1073741824) {team1 : List Int} {a1 : Int} {c1 : Int} {c2 : Int} {c3 : Int} {c4 : Int} {c5 : Int} {c6 : List Int} {c7 : List RateSheet} {c8 : List Int} {m1 : List (RateTurn × RateSheet)} {bo1 : Nat} {bo2 : Nat} {bo3 : Nat} {r : (List Int)} (h : rateMatch1 N team1 a1 c1 c2 c3 c4 c5 c6 c7 c8 m1 = some r) :
    ACalls Tryz.prog 31 [.d (.list 1 (List.map I team1)), .ptr 11 bo1 0, .d (.ref (.agg [I a1]))] [(11, .cells bo1 [.ptr 145019 bo2 0]), (145019, .cells bo2 [.d (I c1), .d (I c2), .d (I c3), .d (I c4), .d (I c5), .d (.list 1 (List.map I c6)), .d (.list 6 (List.map RateSheet.enc c7)), .d (.list 1 (List.map I c8)), .mp 145017 bo3]), (145017, .map bo3 (List.map (fun p => (.agg [I p.1.fBowler, I p.1.fWeek], .agg [I p.2.fNumber, I p.2.fBowler, I p.2.fWeek, I p.2.fGames.a0, I p.2.fGames.a1, I p.2.fGames.a2])) m1))] fun ae os => ∃ y : Unit, True ∧ ae = .ret (.d (.list 1 (List.map I r))) ∧ os = [(11, .cells bo1 [.ptr 145019 bo2 0]), (145019, .cells bo2 [.d (I c1), .d (I c2), .d (I c3), .d (I c4), .d (I c5), .d (.list 1 (List.map I c6)), .d (.list 6 (List.map RateSheet.enc c7)), .d (.list 1 (List.map I c8)), .mp 145017 bo3]), (145017, .map bo3 (List.map (fun p => (.agg [I p.1.fBowler, I p.1.fWeek], .agg [I p.2.fNumber, I p.2.fBowler, I p.2.fWeek, I p.2.fGames.a0, I p.2.fGames.a1, I p.2.fGames.a2])) m1))] := by
  refine acalls_own (fresh := false) tt_ok dr_ok ⟨[], [], [], [], [1002], 150000, []⟩ Tryz.func31 rfl Tryz.call31 rfl ?_
  unfold rateMatch1 at h
  obtain ⟨l2, hx2, h⟩ := obind h;(conv=>whnf);refine Need.mk (mkl_need hN hx2 (by decide)) (Eqv.mk (List.map I l2) (mkl_map _ hx2 rfl) ?_);(conv=>whnf);intro hd2;obtain ⟨l7, hx63, h⟩ := obind h;(conv=>whnf);refine SeqG.mk Unit (fun y => [(4, .sl 150009 hd2)]) (fun y => [(150009, .arr hd2 3 1 false (List.map I l7)), (11, .cells bo1 [.ptr 145019 bo2 0]), (145019, .cells bo2 [.d (I c1), .d (I c2), .d (I c3), .d (I c4), .d (I c5), .d (.list 1 (List.map I c6)), .d (.list 6 (List.map RateSheet.enc c7)), .d (.list 1 (List.map I c8)), .mp 145017 bo3]), (145017, .map bo3 (List.map (fun p => (.agg [I p.1.fBowler, I p.1.fWeek], .agg [I p.2.fNumber, I p.2.fBowler, I p.2.fWeek, I p.2.fGames.a0, I p.2.fGames.a1, I p.2.fGames.a2])) m1))]) (fun _ => True) ?_ ?_
  ·(conv=>whnf);refine LnA.mk _ (List.length_map _) ?_;(conv=>whnf)
   refine LoopG.mk (Nat × (Int × Int × (List Int))) (fun y => [(1, .ptr 11 bo1 0), (2, .d (.ref (.agg [I a1]))), (4, .sl 150009 hd2), (10, .d (.list 1 (List.map I team1))), (11, .d (I y.2.1)), (12, .d (I y.2.2.1))]) (fun y => [(11, .cells bo1 [.ptr 145019 bo2 0]), (150009, .arr hd2 3 1 false (List.map I y.2.2.2)), (145019, .cells bo2 [.d (I c1), .d (I c2), .d (I c3), .d (I c4), .d (I c5), .d (.list 1 (List.map I c6)), .d (.list 6 (List.map RateSheet.enc c7)), .d (.list 1 (List.map I c8)), .mp 145017 bo3]), (145017, .map bo3 (List.map (fun p => (.agg [I p.1.fBowler, I p.1.fWeek], .agg [I p.2.fNumber, I p.2.fBowler, I p.2.fWeek, I p.2.fGames.a0, I p.2.fGames.a1, I p.2.fGames.a2])) m1))]) (fun y => loopN (fun rr x => rateMatch1_b1 N team1 a1 c1 c2 c3 c4 c5 c6 c7 c8 m1 rr x.1 x.2.1 x.2.2) y.1 y.2 = some l7) (fun y => y.1) (N, ((team1.length : Int), 0, l2)) hx63 (Sub.eq rfl ?_ ?_) ?_
   ·(repeat ((conv=>whnf);refine nr ?_));exact trivial
   ·(conv=>whnf);refine no ?_;(conv=>whnf);refine no ?_;(conv=>whnf);refine no ?_;(conv=>whnf);refine no ?_;exact trivial
   ·rintro ⟨n2, ⟨v17, v18, l11⟩⟩ hl2;obtain ⟨n2, rfl, hl2⟩ := loopN_some hl2;replace hl2 : rateMatch1_b1 N team1 a1 c1 c2 c3 c4 c5 c6 c7 c8 m1 (loopN (fun rr x => rateMatch1_b1 N team1 a1 c1 c2 c3 c4 c5 c6 c7 c8 m1 rr x.1 x.2.1 x.2.2) n2) v17 v18 l11 = some l7 := hl2;rw [rateMatch1_b1] at hl2;(conv=>whnf);refine Br.mk (fun hc12 => ?_) (fun hc12 => ?_)
    ·replace hl2 := ite_t hc12 hl2;obtain ⟨x90, hx115, hl2⟩ := obind hl2;(conv=>whnf);refine Side.mk rfl ⟨_, idx_0 hx115, idx_map _ hx115, ?_⟩;(conv=>whnf);refine sr ?_;obtain ⟨r24, hx117, hl2⟩ := obind hl2;(conv=>whnf)
     refine CallG.own (rateReadMakesC (bo1 := bo2) (bo2 := bo3) hN hx117) id [(11, .cells bo1 [.ptr 145019 bo2 0]), (150009, .arr hd2 3 1 false (List.map I l11))] _ (fun y => [(145019, .cells bo2 [.d (I c1), .d (I c2), .d (I c3), .d (I c4), .d (I c5), .d (.list 1 (List.map I c6)), .d (.list 6 (List.map RateSheet.enc c7)), .d (.list 1 (List.map I c8)), .mp 145017 bo3]), (145017, .map bo3 (List.map (fun p => (.agg [I p.1.fBowler, I p.1.fWeek], .agg [I p.2.fNumber, I p.2.fBowler, I p.2.fWeek, I p.2.fGames.a0, I p.2.fGames.a1, I p.2.fGames.a2])) m1)), (11, .cells bo1 [.ptr 145019 bo2 0]), (150009, .arr hd2 3 1 false (List.map I l11))]) (all2_le_refl _) (And.intro rfl (And.intro rfl trivial)) rfl (And.intro rfl (And.intro rfl trivial)) (And.intro rfl (And.intro rfl trivial)) (fun _ => AV.le_refl _) (fun _ => rfl) ?_;rintro _ _;(conv=>whnf);refine LoopG.unr 4 ?_;(conv=>whnf)
     refine IxG.mk 0 rfl (by decide) ?_;obtain ⟨x92, hx119, hl2⟩ := obind hl2;(conv=>whnf);refine Side.mk ⟨rfl, rfl⟩ (Need.mk (idx_need _ hx119) ?_);(conv=>whnf);refine Side.mk ⟨rfl, rfl⟩ ⟨_, Int.natCast_nonneg _, idx_el _ hx119, ?_⟩;(conv=>whnf);refine Side.mk ⟨rfl, rfl⟩ (Need.mk (idx_need _ hx119) ?_);(conv=>whnf);refine Side.mk ⟨rfl, rfl⟩ ⟨_, Int.natCast_nonneg _, idx_el _ hx119, ?_⟩;(conv=>whnf);refine Eqv.mk (List.map I (List.set l11 (Int.toNat 0) (w64 (x92 + r24.a0)))) (set_map _ _ _ _ rfl) ?_;(conv=>whnf);refine IxG.mk 1 rfl (by decide) ?_;obtain ⟨x94, hx121, hl2⟩ := obind hl2;(conv=>whnf);refine Side.mk ⟨rfl, rfl⟩ (Need.mk (idx_need _ hx121) ?_);(conv=>whnf);refine Side.mk ⟨rfl, rfl⟩ ⟨_, Int.natCast_nonneg _, idx_el _ hx121, ?_⟩;(conv=>whnf);refine Side.mk ⟨rfl, rfl⟩ (Need.mk (idx_need _ hx121) ?_);(conv=>whnf)
     refine Side.mk ⟨rfl, rfl⟩ ⟨_, Int.natCast_nonneg _, idx_el _ hx121, ?_⟩;(conv=>whnf);refine Eqv.mk (List.map I (List.set ((List.set l11 (Int.toNat 0) (w64 (x92 + r24.a0)))) (Int.toNat 1) (w64 (x94 + r24.a1)))) (set_map _ _ _ _ rfl) ?_;(conv=>whnf);refine IxG.mk 2 rfl (by decide) ?_;obtain ⟨x96, hx123, hl2⟩ := obind hl2;(conv=>whnf);refine Side.mk ⟨rfl, rfl⟩ (Need.mk (idx_need _ hx123) ?_);(conv=>whnf);refine Side.mk ⟨rfl, rfl⟩ ⟨_, Int.natCast_nonneg _, idx_el _ hx123, ?_⟩;(conv=>whnf);refine Side.mk ⟨rfl, rfl⟩ (Need.mk (idx_need _ hx123) ?_);(conv=>whnf);refine Side.mk ⟨rfl, rfl⟩ ⟨_, Int.natCast_nonneg _, idx_el _ hx123, ?_⟩;(conv=>whnf);refine Eqv.mk (List.map I (List.set ((List.set ((List.set l11 (Int.toNat 0) (w64 (x92 + r24.a0)))) (Int.toNat 1) (w64 (x94 + r24.a1)))) (Int.toNat 2) (w64 (x96 + r24.a2)))) (set_map _ _ _ _ rfl) ?_;(conv=>whnf)
     refine ⟨(n2, (v17, w64 (v18 + 1), (List.set ((List.set ((List.set l11 (Int.toNat 0) (w64 (x92 + r24.a0)))) (Int.toNat 1) (w64 (x94 + r24.a1)))) (Int.toNat 2) (w64 (x96 + r24.a2))))), hl2, Sub.eq rfl ?_ ?_, Nat.lt_succ_self _⟩
     ·(repeat ((conv=>whnf);refine nr ?_));exact trivial
     ·(conv=>whnf);refine no ?_;(conv=>whnf);refine no ?_;(conv=>whnf);refine no ?_;(conv=>whnf);refine no ?_;exact trivial
    ·replace hl2 := ite_f hc12 hl2;cases hl2;(conv=>whnf);refine ⟨(), trivial, Sub.eq rfl ?_ ?_⟩
     ·(repeat ((conv=>whnf);refine nr ?_));exact trivial
     ·(conv=>whnf);refine no ?_;(conv=>whnf);refine no ?_;(conv=>whnf);refine no ?_;(conv=>whnf);refine no ?_;exact trivial
  ·rintro _ _;obtain ⟨r26, hx126, h⟩ := obind h;(conv=>whnf);refine sr ?_;(conv=>whnf);refine CallG.pure _ (rateSumC hN hx126) ?_;(conv=>whnf);intro hd5;obtain ⟨l13, hx127, h⟩ := obind h;(conv=>whnf);refine Side.mk ⟨rfl, rfl⟩ ?_;(conv=>whnf);refine Side.mk ⟨rfl, rfl, rfl⟩ (Need.mk (app_need hN hx127 (by decide)) (Eqv.mk (List.map I l13) (app_map _ hx127) ?_));(conv=>whnf);intro hd6;(conv=>whnf);refine sr ?_;(conv=>whnf);cases h;exact ⟨(), trivial, rfl, inO_at (ren := id) (And.intro rfl (And.intro rfl (And.intro rfl trivial)))⟩
theorem rateMatchC {N : Nat} (hN : N ≤ 1073741824) {b1 : RateBook} {w1 : Int} {home1 : List Int} {away1 : List Int} {r : Int × Int × Int} (h : rateMatch N b1 w1 home1 away1 = some r) :
    ACalls Tryz.prog 10 [.d (.agg [I b1.fLaw.fBase, I b1.fLaw.fPercent, I b1.fLaw.fCap, I b1.fLaw.fLeast, I b1.fLaw.fBlind, .list 1 (List.map I b1.fBowlers), .list 6 (List.map RateSheet.enc b1.fSheets), .list 1 (List.map I b1.fWithdrawn)]), .d (I w1), .d (.list 1 (List.map I home1)), .d (.list 1 (List.map I away1))] [] fun e os => e = .ret (.d (.tup [I r.1, I r.2.1, I r.2.2])) ∧ os = [] := by
  refine acalls_f (fresh := false) tt_ok dr_ok ⟨[4, 5], [], [], [], [2, 1004, 1010], 0, []⟩ Tryz.func10 rfl Tryz.call10 rfl ?_
  unfold rateMatch at h
  obtain ⟨⟨ra2, rb2, rc2, rd2, re2, rf2, rg2, rh2, ri2, rj2⟩, hx2, h⟩ := obind h;(conv=>whnf);refine CallG.own (rateBookReadC hN hx2) id [] _ (fun y => [(145019, .cells y.1 [.d (I rb2), .d (I rc2), .d (I rd2), .d (I re2), .d (I rf2), .d (.list 1 (List.map I rg2)), .d (.list 6 (List.map RateSheet.enc rh2)), .d (.list 1 (List.map I ri2)), .mp 145017 y.2]), (145017, .map y.2 (List.map (fun p => (.agg [I p.1.fBowler, I p.1.fWeek], .agg [I p.2.fNumber, I p.2.fBowler, I p.2.fWeek, I p.2.fGames.a0, I p.2.fGames.a1, I p.2.fGames.a2])) rj2))]) (all2_le_refl _) trivial rfl trivial trivial (fun _ => AV.le_refl _) (fun _ => rfl) ?_;rintro ⟨b5, b6⟩ _;(conv=>whnf);intro b7;(conv=>whnf);refine sr ?_;obtain ⟨v2, hx7, h⟩ := obind h;(conv=>whnf)
  refine SeqG.mk Unit (fun y => [(2, .d (.list 1 (List.map I home1))), (3, .d (.list 1 (List.map I away1))), (4, .d (.ref (.agg [I b1.fLaw.fBase, I b1.fLaw.fPercent, I b1.fLaw.fCap, I b1.fLaw.fLeast, I b1.fLaw.fBlind, .list 1 (List.map I b1.fBowlers), .list 6 (List.map RateSheet.enc b1.fSheets), .list 1 (List.map I b1.fWithdrawn)]))), (5, .d (.ref (.agg [I w1]))), (8, .i .i64 0), (9, .i .i64 0), (10, .d (I ra2)), (11, .ptr 11 b7 0), (28, .d (.bool v2))]) (fun y => [(11, .cells b7 [.ptr 145019 b5 0]), (145019, .cells b5 [.d (I rb2), .d (I rc2), .d (I rd2), .d (I re2), .d (I rf2), .d (.list 1 (List.map I rg2)), .d (.list 6 (List.map RateSheet.enc rh2)), .d (.list 1 (List.map I ri2)), .mp 145017 b6]), (145017, .map b6 (List.map (fun p => (.agg [I p.1.fBowler, I p.1.fWeek], .agg [I p.2.fNumber, I p.2.fBowler, I p.2.fWeek, I p.2.fGames.a0, I p.2.fGames.a1, I p.2.fGames.a2])) rj2))]) (fun _ => True) ?_ ?_
  ·(conv=>whnf);refine Br.mk (fun hc5 => ?_) (fun hc5 => ?_)
   ·replace hx7 := ite_t hc5 hx7;obtain ⟨r4, hx8, hx7⟩ := obind hx7;(conv=>whnf);refine CallG.pure _ (rateWeekC hN hx8) ?_;cases hx7;(conv=>whnf);refine ⟨(), trivial, Sub.eq rfl ?_ ?_⟩
    ·(repeat ((conv=>whnf);refine nr ?_));exact trivial
    ·(conv=>whnf);refine no ?_;(conv=>whnf);refine no ?_;(conv=>whnf);refine no ?_;exact trivial
   ·replace hx7 := ite_f hc5 hx7;cases hx7;(conv=>whnf);refine ⟨(), trivial, Sub.eq rfl ?_ ?_⟩
    ·(repeat ((conv=>whnf);refine nr ?_));exact trivial
    ·(conv=>whnf);refine no ?_;(conv=>whnf);refine no ?_;(conv=>whnf);refine no ?_;exact trivial
  ·rintro _ _;(conv=>whnf);refine Br.mk (fun hc6 => ?_) (fun hc6 => ?_)
   ·replace h := ite_t hc6 h;cases h
   ·replace h := ite_f hc6 h;obtain ⟨e1, hx10, h⟩ := obind h;(conv=>whnf);refine SeqG.mk Unit (fun y => [(2, .d (.list 1 (List.map I home1))), (3, .d (.list 1 (List.map I away1))), (5, .d (.ref (.agg [I w1]))), (8, .i .i64 0), (9, .i .i64 0), (10, .d (I e1)), (11, .ptr 11 b7 0)]) (fun y => [(11, .cells b7 [.ptr 145019 b5 0]), (145019, .cells b5 [.d (I rb2), .d (I rc2), .d (I rd2), .d (I re2), .d (I rf2), .d (.list 1 (List.map I rg2)), .d (.list 6 (List.map RateSheet.enc rh2)), .d (.list 1 (List.map I ri2)), .mp 145017 b6]), (145017, .map b6 (List.map (fun p => (.agg [I p.1.fBowler, I p.1.fWeek], .agg [I p.2.fNumber, I p.2.fBowler, I p.2.fWeek, I p.2.fGames.a0, I p.2.fGames.a1, I p.2.fGames.a2])) rj2))]) (fun _ => True) ?_ ?_
    ·(conv=>whnf);refine Br.mk (fun hc8 => ?_) (fun hc8 => ?_)
     ·replace hx10 := ite_t hc8 hx10;obtain ⟨r6, hx11, hx10⟩ := obind hx10;(conv=>whnf);refine CallG.pure _ (rateBookTeamsC hN hx11) ?_;cases hx10;(conv=>whnf);refine ⟨(), trivial, Sub.eq rfl ?_ ?_⟩
      ·(repeat ((conv=>whnf);refine nr ?_));exact trivial
      ·(conv=>whnf);refine no ?_;(conv=>whnf);refine no ?_;(conv=>whnf);refine no ?_;exact trivial
     ·replace hx10 := ite_f hc8 hx10;cases hx10;(conv=>whnf);refine ⟨(), trivial, Sub.eq rfl ?_ ?_⟩
      ·(repeat ((conv=>whnf);refine nr ?_));exact trivial
      ·(conv=>whnf);refine no ?_;(conv=>whnf);refine no ?_;(conv=>whnf);refine no ?_;exact trivial
    ·rintro _ _;(conv=>whnf);refine Br.mk (fun hc10 => ?_) (fun hc10 => ?_)
     ·replace h := ite_t hc10 h;cases h
     ·replace h := ite_f hc10 h;obtain ⟨r9, hx14, h⟩ := obind h;(conv=>whnf);refine CallG.own (rateMatch1C (bo1 := b7) (bo2 := b5) (bo3 := b6) hN hx14) id [] _ (fun y => [(11, .cells b7 [.ptr 145019 b5 0]), (145019, .cells b5 [.d (I rb2), .d (I rc2), .d (I rd2), .d (I re2), .d (I rf2), .d (.list 1 (List.map I rg2)), .d (.list 6 (List.map RateSheet.enc rh2)), .d (.list 1 (List.map I ri2)), .mp 145017 b6]), (145017, .map b6 (List.map (fun p => (.agg [I p.1.fBowler, I p.1.fWeek], .agg [I p.2.fNumber, I p.2.fBowler, I p.2.fWeek, I p.2.fGames.a0, I p.2.fGames.a1, I p.2.fGames.a2])) rj2))]) (all2_le_refl _) (And.intro rfl (And.intro rfl (And.intro rfl trivial))) rfl (And.intro rfl (And.intro rfl (And.intro rfl trivial))) trivial (fun _ => AV.le_refl _) (fun _ => rfl) ?_;rintro _ _;obtain ⟨r10, hx15, h⟩ := obind h;(conv=>whnf)
      refine CallG.own (rateMatch1C (bo1 := b7) (bo2 := b5) (bo3 := b6) hN hx15) id [] _ (fun y => [(11, .cells b7 [.ptr 145019 b5 0]), (145019, .cells b5 [.d (I rb2), .d (I rc2), .d (I rd2), .d (I re2), .d (I rf2), .d (.list 1 (List.map I rg2)), .d (.list 6 (List.map RateSheet.enc rh2)), .d (.list 1 (List.map I ri2)), .mp 145017 b6]), (145017, .map b6 (List.map (fun p => (.agg [I p.1.fBowler, I p.1.fWeek], .agg [I p.2.fNumber, I p.2.fBowler, I p.2.fWeek, I p.2.fGames.a0, I p.2.fGames.a1, I p.2.fGames.a2])) rj2))]) (all2_le_refl _) (And.intro rfl (And.intro rfl (And.intro rfl trivial))) rfl (And.intro rfl (And.intro rfl (And.intro rfl trivial))) trivial (fun _ => AV.le_refl _) (fun _ => rfl) ?_;rintro _ _;obtain ⟨forHome5, hx52, h⟩ := obind h;(conv=>whnf);refine SeqG.mk Unit (fun y => [(8, .d (I forHome5)), (9, .i .i64 0)]) (fun y => []) (fun _ => True) ?_ ?_
      ·(conv=>whnf);refine LnA.mk _ (List.length_map _) ?_;(conv=>whnf);refine LoopG.mk (Nat × (Int × Int × Int)) (fun y => [(8, .d (I y.2.1)), (9, .i .i64 0), (14, .d (.list 1 (List.map I r10))), (45, .d (.list 1 (List.map I r9))), (46, .d (I y.2.2.1)), (47, .d (I y.2.2.2))]) (fun y => []) (fun y => loopN (fun rr x => rateMatch_b1 N r9 r10 rr x.1 x.2.1 x.2.2) y.1 y.2 = some forHome5) (fun y => y.1) (N, (0, (r9.length : Int), 0)) hx52 (Sub.eq rfl ?_ ?_) ?_
       ·(repeat ((conv=>whnf);refine nr ?_));exact trivial
       ·exact trivial
       ·rintro ⟨n2, ⟨forHome9, v19, v20⟩⟩ hl2;obtain ⟨n2, rfl, hl2⟩ := loopN_some hl2;replace hl2 : rateMatch_b1 N r9 r10 (loopN (fun rr x => rateMatch_b1 N r9 r10 rr x.1 x.2.1 x.2.2) n2) forHome9 v19 v20 = some forHome5 := hl2;rw [rateMatch_b1] at hl2;(conv=>whnf);refine Br.mk (fun hc62 => ?_) (fun hc62 => ?_)
        ·replace hl2 := ite_t hc62 hl2;obtain ⟨x68, hx84, hl2⟩ := obind hl2;(conv=>whnf);refine Side.mk rfl ⟨_, idx_0 hx84, idx_map _ hx84, ?_⟩;obtain ⟨x72, hx88, hl2⟩ := obind hl2;(conv=>whnf);refine Side.mk rfl ⟨_, idx_0 hx88, idx_map _ hx88, ?_⟩;(conv=>whnf);refine Br.mk (fun hc69 => ?_) (fun hc69 => ?_)
         ·replace hl2 := ite_t hc69 hl2;(conv=>whnf);refine ⟨(n2, (w64 (forHome9 + 2), v19, w64 (v20 + 1))), hl2, Sub.eq rfl ?_ ?_, Nat.lt_succ_self _⟩
          ·(repeat ((conv=>whnf);refine nr ?_));exact trivial
          ·exact trivial
         ·replace hl2 := ite_f hc69 hl2;(conv=>whnf);refine Side.mk rfl ⟨_, idx_0 hx88, idx_map _ hx88, ?_⟩;(conv=>whnf);refine Br.mk (fun hc70 => ?_) (fun hc70 => ?_)
          ·replace hl2 := ite_t hc70 hl2;cases hl2
          ·replace hl2 := ite_f hc70 hl2;cases hl2
        ·replace hl2 := ite_f hc62 hl2;cases hl2;(conv=>whnf);refine ⟨(), trivial, Sub.eq rfl ?_ ?_⟩
         ·(repeat ((conv=>whnf);refine nr ?_));exact trivial
         ·exact trivial
      ·rintro _ _;(conv=>whnf);cases h;exact rfl
theorem leagueWithinC {N : Nat} (hN : N ≤ 1073741824) {n1 : Int} {low1 : Int} {high1 : Int} {r : Bool} (h : leagueWithin N n1 low1 high1 = some r) :
    ACalls Tryz.prog 107 [.d (I n1), .d (I low1), .d (I high1)] [] fun e os => e = .ret (.d (.bool r)) ∧ os = [] := by
  refine acalls_f (fresh := false) tt_ok dr_ok ⟨[], [], [], [], [1], 0, []⟩ Tryz.func107 rfl Tryz.call107 rfl ?_
  unfold leagueWithin at h
  obtain ⟨v1, hx1, h⟩ := obind h;(conv=>whnf);refine SeqG.mk Unit (fun y => [(6, .d (.bool v1))]) (fun y => []) (fun _ => True) ?_ ?_
  ·(conv=>whnf);refine Br.mk (fun hc2 => ?_) (fun hc2 => ?_)
   ·replace hx1 := ite_t hc2 hx1;cases hx1;(conv=>whnf);refine ⟨(), trivial, Sub.eq rfl ?_ ?_⟩
    ·(repeat ((conv=>whnf);refine nr ?_));exact trivial
    ·exact trivial
   ·replace hx1 := ite_f hc2 hx1;cases hx1;(conv=>whnf);refine ⟨(), trivial, Sub.eq rfl ?_ ?_⟩
    ·(repeat ((conv=>whnf);refine nr ?_));exact trivial
    ·exact trivial
  ·rintro _ _;(conv=>whnf);cases h;exact rfl
theorem leagueTeamsC {N : Nat} (hN : N ≤ 1073741824) {n1 : Int} {r : Bool} (h : leagueTeams N n1 = some r) :
    ACalls Tryz.prog 70 [.d (I n1)] [] fun e os => e = .ret (.d (.bool r)) ∧ os = [] := by
  refine acalls_f (fresh := false) tt_ok dr_ok ⟨[], [], [], [], [], 0, []⟩ Tryz.func70 rfl Tryz.call70 rfl ?_
  unfold leagueTeams at h
  obtain ⟨r2, hx2, h⟩ := obind h;(conv=>whnf);refine CallG.pure _ (leagueWithinC hN hx2) ?_;(conv=>whnf);cases h;exact rfl
theorem leagueLeagueTeamC {N : Nat} (hN : N ≤ 1073741824) {l1 : LeagueLeague} {n1 : Int} {r : Bool} (h : leagueLeagueTeam N l1 n1 = some r) :
    ACalls Tryz.prog 82 [.d (.agg [I l1.fTeams, .list 5 (List.map LeagueGame.enc l1.fGames)]), .d (I n1)] [] fun e os => e = .ret (.d (.bool r)) ∧ os = [] := by
  refine acalls_f (fresh := false) tt_ok dr_ok ⟨[2], [], [], [], [], 0, []⟩ Tryz.func82 rfl Tryz.call82 rfl ?_
  unfold leagueLeagueTeam at h
  obtain ⟨r2, hx2, h⟩ := obind h;(conv=>whnf);refine CallG.pure _ (leagueWithinC hN hx2) ?_;(conv=>whnf);cases h;exact rfl
theorem leagueLeagueGameC {N : Nat} (hN : N ≤ 1073741824) {l1 : LeagueLeague} {g1 : LeagueGame} {r : Bool} (h : leagueLeagueGame N l1 g1 = some r) :
    ACalls Tryz.prog 72 [.d (.agg [I l1.fTeams, .list 5 (List.map LeagueGame.enc l1.fGames)]), .d (.agg [I g1.fA, I g1.fB, I g1.fPinsA, I g1.fPinsB, .bool g1.fOpen])] [] fun e os => e = .ret (.d (.bool r)) ∧ os = [] := by
  refine acalls_f (fresh := false) tt_ok dr_ok ⟨[2, 3], [], [], [], [1, 2], 0, []⟩ Tryz.func72 rfl Tryz.call72 rfl ?_
  unfold leagueLeagueGame at h
  obtain ⟨pins1, hx3, h⟩ := obind h;(conv=>whnf);refine SeqG.mk Unit (fun y => [(2, .d (.ref (.agg [I l1.fTeams, .list 5 (List.map LeagueGame.enc l1.fGames)]))), (3, .d (.ref (.agg [I g1.fA, I g1.fB, I g1.fPinsA, I g1.fPinsB, .bool g1.fOpen]))), (5, .d (.bool pins1))]) (fun y => []) (fun _ => True) ?_ ?_
  ·obtain ⟨r3, hx4, hx3⟩ := obind hx3;(conv=>whnf);refine CallG.pure _ (leagueWithinC hN hx4) ?_;(conv=>whnf);refine Br.mk (fun hc2 => ?_) (fun hc2 => ?_)
   ·replace hx3 := ite_t hc2 hx3;obtain ⟨r4, hx5, hx3⟩ := obind hx3;(conv=>whnf);refine CallG.pure _ (leagueWithinC hN hx5) ?_;cases hx3;(conv=>whnf);refine ⟨(), trivial, Sub.eq rfl ?_ ?_⟩
    ·(repeat ((conv=>whnf);refine nr ?_));exact trivial
    ·exact trivial
   ·replace hx3 := ite_f hc2 hx3;cases hx3;(conv=>whnf);refine ⟨(), trivial, Sub.eq rfl ?_ ?_⟩
    ·(repeat ((conv=>whnf);refine nr ?_));exact trivial
    ·exact trivial
  ·rintro _ _;obtain ⟨v1, hx8, h⟩ := obind h;(conv=>whnf);refine SeqG.mk Unit (fun y => [(4, .d (.bool v1))]) (fun y => []) (fun _ => True) ?_ ?_
   ·obtain ⟨r7, hx9, hx8⟩ := obind hx8;(conv=>whnf);refine CallG.pure _ (leagueLeagueTeamC hN hx9) ?_;(conv=>whnf);refine Br.mk (fun hc9 => ?_) (fun hc9 => ?_)
    ·replace hx8 := ite_t hc9 hx8;obtain ⟨r8, hx10, hx8⟩ := obind hx8;(conv=>whnf);refine CallG.pure _ (leagueLeagueTeamC hN hx10) ?_;(conv=>whnf);refine Br.mk (fun hc10 => ?_) (fun hc10 => ?_)
     ·replace hx8 := ite_t hc10 hx8;(conv=>whnf);refine Br.mk (fun hc11 => ?_) (fun hc11 => ?_)
      ·replace hx8 := ite_t hc11 hx8;(conv=>whnf);refine Br.mk (fun hc12 => ?_) (fun hc12 => ?_)
       ·replace hx8 := ite_t hc12 hx8;(conv=>whnf);refine Br.mk (fun hc13 => ?_) (fun hc13 => ?_)
        ·replace hx8 := ite_f hc13 hx8;(conv=>whnf);refine Br.mk (fun hc14 => ?_) (fun hc14 => ?_)
         ·replace hx8 := ite_t hc14 hx8;cases hx8;(conv=>whnf);refine ⟨(), trivial, Sub.eq rfl ?_ ?_⟩
          ·(repeat ((conv=>whnf);refine nr ?_));exact trivial
          ·exact trivial
         ·replace hx8 := ite_f hc14 hx8;cases hx8;(conv=>whnf);refine ⟨(), trivial, Sub.eq rfl ?_ ?_⟩
          ·(repeat ((conv=>whnf);refine nr ?_));exact trivial
          ·exact trivial
        ·replace hx8 := ite_t hc13 hx8;cases hx8;(conv=>whnf);refine ⟨(), trivial, Sub.eq rfl ?_ ?_⟩
         ·(repeat ((conv=>whnf);refine nr ?_));exact trivial
         ·exact trivial
       ·replace hx8 := ite_f hc12 hx8;cases hx8;(conv=>whnf);refine ⟨(), trivial, Sub.eq rfl ?_ ?_⟩
        ·(repeat ((conv=>whnf);refine nr ?_));exact trivial
        ·exact trivial
      ·replace hx8 := ite_f hc11 hx8;cases hx8;(conv=>whnf);refine ⟨(), trivial, Sub.eq rfl ?_ ?_⟩
       ·(repeat ((conv=>whnf);refine nr ?_));exact trivial
       ·exact trivial
     ·replace hx8 := ite_f hc10 hx8;cases hx8;(conv=>whnf);refine ⟨(), trivial, Sub.eq rfl ?_ ?_⟩
      ·(repeat ((conv=>whnf);refine nr ?_));exact trivial
      ·exact trivial
    ·replace hx8 := ite_f hc9 hx8;cases hx8;(conv=>whnf);refine ⟨(), trivial, Sub.eq rfl ?_ ?_⟩
     ·(repeat ((conv=>whnf);refine nr ?_));exact trivial
     ·exact trivial
   ·rintro _ _;(conv=>whnf);cases h;exact rfl
theorem leagueAll1C {N : Nat} (hN : N ≤ 1073741824) {x1 : LeagueGame} {a1 : LeagueLeague} {r : Bool} (h : leagueAll1 N x1 a1 = some r) :
    ACalls Tryz.prog 109 [.d (.agg [I x1.fA, I x1.fB, I x1.fPinsA, I x1.fPinsB, .bool x1.fOpen]), .d (.ref (.agg [.fn (.func 72) [.agg [I a1.fTeams, .list 5 (List.map LeagueGame.enc a1.fGames)]] []]))] [] fun e os => e = .ret (.d (.bool r)) ∧ os = [] := by
  refine acalls_f (fresh := false) tt_ok dr_ok ⟨[2], [], [], [], [], 0, []⟩ Tryz.func109 rfl Tryz.call109 rfl ?_
  unfold leagueAll1 at h
  obtain ⟨r2, hx2, h⟩ := obind h;(conv=>whnf);refine CallG.pure _ (leagueLeagueGameC hN hx2) ?_;(conv=>whnf);cases h;exact rfl
end Go.Proofs.YtignpdbcgjllkaaGreat
