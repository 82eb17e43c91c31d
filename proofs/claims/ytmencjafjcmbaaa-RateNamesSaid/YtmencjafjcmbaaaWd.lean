/-
  Walks: what the typed functions compute, the program’s functions return.
-/
import Derived.Test.YtmencjafjcmbaaaWe
import Derived.Test.YtmencjafjcmbaaaWc
namespace Go.Proofs.Ytmencjafjcmbaaa
open Go Go.Abs Go.Kp
set_option maxRecDepth 100000
set_option maxHeartbeats 8000000
set_option linter.all false

theorem ref07CountingC {N : Nat} (hN : N ≤ 1073741824) {b1 : Ref07Book} {r : (List Int)} (h : ref07Counting N b1 = some r) :
    ACalls Try.prog 24 [.d (.agg [I b1.fLaw.fBase, I b1.fLaw.fPercent, I b1.fLaw.fCap, I b1.fLaw.fLeast, I b1.fLaw.fBlind, .list 1 (List.map I b1.fBowlers), .list 6 (List.map Ref07Sheet.enc b1.fSheets), .list 1 (List.map I b1.fWithdrawn)])] [] fun e os => e = .ret (.d (.list 1 (List.map I r))) ∧ os = [] := by
  refine acalls_f (fresh := false) tt_ok dr_ok ⟨[1], [], [], [], [1002, 1005, 1006, 1009], 0, []⟩ Try.func24 rfl Try.call24 rfl ?_
  unfold ref07Counting at h
  obtain ⟨l53, hx1041, h⟩ := obind h
  conv => whnf
  refine SeqG.mk Value (fun y => [(3, .sl 42 y)]) (fun y => [(42, .arr y 3 1 false (List.map I l53))]) (fun _ => True) ?_ ?_
  ·conv => whnf
   refine LoopG.mk (Nat × (Int × (List Int)) × Value) (fun y => [(1, .d (.ref (.agg [I b1.fLaw.fBase, I b1.fLaw.fPercent, I b1.fLaw.fCap, I b1.fLaw.fLeast, I b1.fLaw.fBlind, .list 1 (List.map I b1.fBowlers), .list 6 (List.map Ref07Sheet.enc b1.fSheets), .list 1 (List.map I b1.fWithdrawn)]))), (3, .sl 42 y.2.2), (4, .d (I y.2.1.1))]) (fun y => [(42, .arr y.2.2 3 1 false (List.map I y.2.1.2))]) (fun y => loopN (fun rr x => ref07Counting_b2 N b1 rr x.1 x.2) y.1 y.2.1 = some l53) (fun y => y.1) (N, (1, []), (.slice none 0 0)) hx1041 (Sub.eq rfl ?_ ?_) ?_
   ·repeat ((conv => whnf); refine Need.mk rfl ?_)
    exact trivial
   ·conv => whnf
    refine Need.mk (OLe.nil _ _ _ _) ?_
    exact trivial
   ·rintro ⟨n82, ⟨n81, l63⟩, hd99⟩ hl74
    obtain ⟨n82, rfl, hl74⟩ := loopN_some hl74
    replace hl74 : ref07Counting_b2 N b1 (loopN (fun rr x => ref07Counting_b2 N b1 rr x.1 x.2) n82) n81 l63 = some l53 := hl74
    rw [ref07Counting_b2] at hl74
    conv => whnf
    refine Br.mk (fun hc1196 => ?_) (fun hc1196 => ?_)
    ·replace hl74 := ite_t hc1196 hl74
     obtain ⟨l65, hx1204, hl74⟩ := obind hl74
     conv => whnf
     refine SeqG.mk Value (fun y => [(1, .d (.ref (.agg [I b1.fLaw.fBase, I b1.fLaw.fPercent, I b1.fLaw.fCap, I b1.fLaw.fLeast, I b1.fLaw.fBlind, .list 1 (List.map I b1.fBowlers), .list 6 (List.map Ref07Sheet.enc b1.fSheets), .list 1 (List.map I b1.fWithdrawn)]))), (3, .sl 42 y), (4, .d (I n81))]) (fun y => [(42, .arr y 3 1 false (List.map I l65))]) (fun _ => True) ?_ ?_
     ·obtain ⟨is563, hx1220, hx1204⟩ := obind hx1204
      conv => whnf
      refine SeqG.mk Unit (fun y => [(1, .d (.ref (.agg [I b1.fLaw.fBase, I b1.fLaw.fPercent, I b1.fLaw.fCap, I b1.fLaw.fLeast, I b1.fLaw.fBlind, .list 1 (List.map I b1.fBowlers), .list 6 (List.map Ref07Sheet.enc b1.fSheets), .list 1 (List.map I b1.fWithdrawn)]))), (3, .sl 42 hd99), (4, .d (I n81)), (5, .d (.bool is563))]) (fun y => [(42, .arr hd99 3 1 false (List.map I l63))]) (fun _ => True) ?_ ?_
      ·conv => whnf
       refine LoopG.mk (Nat × (Bool × Int)) (fun y => [(1, .d (.ref (.agg [I b1.fLaw.fBase, I b1.fLaw.fPercent, I b1.fLaw.fCap, I b1.fLaw.fLeast, I b1.fLaw.fBlind, .list 1 (List.map I b1.fBowlers), .list 6 (List.map Ref07Sheet.enc b1.fSheets), .list 1 (List.map I b1.fWithdrawn)]))), (3, .sl 42 hd99), (4, .d (I n81)), (5, .d (.bool y.2.1)), (6, .d (I y.2.2))]) (fun y => [(42, .arr hd99 3 1 false (List.map I l63))]) (fun y => loopN (fun rr x => ref07Counting_b1 N b1 n81 rr x.1 x.2) y.1 y.2 = some is563) (fun y => y.1) (N, (false, 0)) hx1220 (Sub.eq rfl ?_ ?_) ?_
       ·repeat ((conv => whnf); refine Need.mk rfl ?_)
        exact trivial
       ·conv => whnf
        refine Need.mk (OLe.refl _) ?_
        exact trivial
       ·rintro ⟨n86, ⟨is569, i304⟩⟩ hl78
        obtain ⟨n86, rfl, hl78⟩ := loopN_some hl78
        replace hl78 : ref07Counting_b1 N b1 n81 (loopN (fun rr x => ref07Counting_b1 N b1 n81 rr x.1 x.2) n86) is569 i304 = some is563 := hl78
        rw [ref07Counting_b1] at hl78
        conv => whnf
        refine LnA.mk _ (List.length_map _) ?_
        conv => whnf
        refine Br.mk (fun hc1257 => ?_) (fun hc1257 => ?_)
        ·replace hl78 := ite_t hc1257 hl78
         obtain ⟨is570, hx1233, hl78⟩ := obind hl78
         conv => whnf
         refine SeqG.mk Unit (fun y => [(1, .d (.ref (.agg [I b1.fLaw.fBase, I b1.fLaw.fPercent, I b1.fLaw.fCap, I b1.fLaw.fLeast, I b1.fLaw.fBlind, .list 1 (List.map I b1.fBowlers), .list 6 (List.map Ref07Sheet.enc b1.fSheets), .list 1 (List.map I b1.fWithdrawn)]))), (3, .sl 42 hd99), (4, .d (I n81)), (5, .d (.bool is570)), (6, .d (I i304))]) (fun y => [(42, .arr hd99 3 1 false (List.map I l63))]) (fun _ => True) ?_ ?_
         ·conv => whnf
          refine DrawG.mk (.take 0 (.take 1 (.spl 19 (.take 2 (.take 3 (.take 4 (.take 5 (.take 6 (.take 7 (.take 8 (.take 9 (.take 10 (.spl 28 (.take 11 (.take 12 (.take 13 (.take 14 (.take 15 (.take 16 (.alt 17 [15, 14, 13, 12, 9, 8, 7, 6, 5, 4, 3, 2, 1, 0] (.take 18 (.take 19 (.alt 20 [] .done .nil))) .nil)))))))))))))))))))) (by kernel_rfl) ?_
          conv => whnf
          refine Br.mk (fun hc1260 => ?_) (fun hc1260 => ?_)
          ·replace hx1233 := ite_t hc1260 hx1233
           conv => whnf
           refine Both.mk ?_ trivial
           conv => whnf
           refine Need.mk rfl ?_
           conv => whnf
           refine Need.mk rfl ?_
           conv => whnf
           refine Need.mk rfl ?_
           conv => whnf
           refine Need.mk rfl ?_
           conv => whnf
           refine Need.mk rfl ?_
           conv => whnf
           refine Need.mk rfl ?_
           conv => whnf
           refine Need.mk rfl ?_
           conv => whnf
           refine Need.mk rfl ?_
           conv => whnf
           refine Need.mk rfl ?_
           conv => whnf
           refine Need.mk rfl ?_
           conv => whnf
           refine Need.mk rfl ?_
           conv => whnf
           refine Need.mk rfl ?_
           conv => whnf
           refine Need.mk (AV.le_bool hc1260) ?_
           conv => whnf
           refine Need.mk (AV.le_refl _) ?_
           conv => whnf
           refine Both.mk ?_ trivial
           cases hx1233
           conv => whnf
           refine ⟨(), trivial, Sub.eq rfl ?_ ?_⟩
           ·repeat ((conv => whnf); refine Need.mk rfl ?_)
            exact trivial
           ·conv => whnf
            refine Need.mk (OLe.refl _) ?_
            exact trivial
          ·replace hx1233 := ite_f hc1260 hx1233
           obtain ⟨x456, hx1234, hx1233⟩ := obind hx1233
           conv => whnf
           refine Side.mk rfl ⟨_, idx_0 hx1234, idx_map _ hx1234, ?_⟩
           conv => whnf
           refine Br.mk (fun hc1261 => ?_) (fun hc1261 => ?_)
           ·replace hx1233 := ite_t hc1261 hx1233
            obtain ⟨r456, hx1235, hx1233⟩ := obind hx1233
            conv => whnf
            refine Side.mk rfl ⟨_, idx_0 hx1234, idx_map _ hx1234, ?_⟩
            conv => whnf
            refine Both.mk ?_ trivial
            conv => whnf
            refine CallG.pure _ (ref07CountsC hN hx1235) ?_
            conv => whnf
            refine Side.mk rfl ⟨_, idx_0 hx1234, idx_map _ hx1234, ?_⟩
            conv => whnf
            refine Need.mk (AV.le_refl _) ?_
            conv => whnf
            refine Need.mk (AV.le_refl _) ?_
            conv => whnf
            refine Need.mk (AV.le_refl _) ?_
            conv => whnf
            refine Need.mk (AV.le_refl _) ?_
            conv => whnf
            refine Need.mk (AV.le_refl _) ?_
            conv => whnf
            refine Need.mk (AV.le_refl _) ?_
            conv => whnf
            refine Need.mk (AV.le_refl _) ?_
            conv => whnf
            refine Need.mk (AV.le_refl _) ?_
            conv => whnf
            refine Side.mk rfl ⟨_, idx_0 hx1234, idx_map _ hx1234, ?_⟩
            conv => whnf
            refine Need.mk (AV.le_refl _) ?_
            conv => whnf
            refine Need.mk (AV.le_refl _) ?_
            conv => whnf
            refine Need.mk (AV.le_refl _) ?_
            conv => whnf
            refine Need.mk (AV.le_refl _) ?_
            conv => whnf
            refine Need.mk (AV.le_bool hc1260) ?_
            conv => whnf
            refine Need.mk (AV.le_refl _) ?_
            conv => whnf
            refine Both.mk ?_ trivial
            cases hx1233
            conv => whnf
            refine ⟨(), trivial, Sub.eq rfl ?_ ?_⟩
            ·repeat ((conv => whnf); refine Need.mk rfl ?_)
             exact trivial
            ·conv => whnf
             refine Need.mk (OLe.refl _) ?_
             exact trivial
           ·replace hx1233 := ite_f hc1261 hx1233
            conv => whnf
            refine Both.mk ?_ trivial
            conv => whnf
            refine Need.mk rfl ?_
            conv => whnf
            refine Need.mk rfl ?_
            conv => whnf
            refine Need.mk rfl ?_
            conv => whnf
            refine Need.mk rfl ?_
            conv => whnf
            refine Need.mk (AV.le_refl _) ?_
            conv => whnf
            refine Need.mk (AV.le_refl _) ?_
            conv => whnf
            refine Need.mk (AV.le_refl _) ?_
            conv => whnf
            refine Need.mk (AV.le_refl _) ?_
            conv => whnf
            refine Side.mk rfl ⟨_, idx_0 hx1234, idx_map _ hx1234, ?_⟩
            conv => whnf
            refine Need.mk (AV.le_refl _) ?_
            conv => whnf
            refine Need.mk (AV.le_refl _) ?_
            conv => whnf
            refine Need.mk (AV.le_refl _) ?_
            conv => whnf
            refine Need.mk (AV.le_refl _) ?_
            conv => whnf
            refine Need.mk (AV.le_bool hc1260) ?_
            conv => whnf
            refine Need.mk (AV.le_refl _) ?_
            conv => whnf
            refine Both.mk ?_ trivial
            cases hx1233
            conv => whnf
            refine ⟨(), trivial, Sub.eq rfl ?_ ?_⟩
            ·repeat ((conv => whnf); refine Need.mk rfl ?_)
             exact trivial
            ·conv => whnf
             refine Need.mk (OLe.refl _) ?_
             exact trivial
         ·rintro _ _
          conv => whnf
          refine ⟨(n86, (is570, w64 (i304 + 1))), hl78, Sub.eq rfl ?_ ?_, Nat.lt_succ_self _⟩
          ·repeat ((conv => whnf); refine Need.mk rfl ?_)
           exact trivial
          ·conv => whnf
           refine Need.mk (OLe.refl _) ?_
           exact trivial
        ·replace hl78 := ite_f hc1257 hl78
         cases hl78
         conv => whnf
         refine ⟨(), trivial, Sub.eq rfl ?_ ?_⟩
         ·repeat ((conv => whnf); refine Need.mk rfl ?_)
          exact trivial
         ·conv => whnf
          refine Need.mk (OLe.refl _) ?_
          exact trivial
      ·rintro _ _
       conv => whnf
       refine Br.mk (fun hc1262 => ?_) (fun hc1262 => ?_)
       ·replace hx1204 := ite_t hc1262 hx1204
        conv => whnf
        intro hd103
        obtain ⟨l66, hx1236, hx1204⟩ := obind hx1204
        conv => whnf
        refine Side.mk ⟨rfl, rfl⟩ ?_
        conv => whnf
        refine Side.mk ⟨rfl, rfl, rfl⟩ (Need.mk (app_need hN hx1236 (by decide)) (Eqv.mk (List.map I l66) (app_map _ hx1236) ?_))
        conv => whnf
        intro hd104
        cases hx1204
        conv => whnf
        refine ⟨hd104, trivial, Sub.eq rfl ?_ ?_⟩
        ·repeat ((conv => whnf); refine Need.mk rfl ?_)
         exact trivial
        ·conv => whnf
         refine Need.mk (OLe.refl _) ?_
         exact trivial
       ·replace hx1204 := ite_f hc1262 hx1204
        cases hx1204
        conv => whnf
        refine ⟨hd99, trivial, Sub.eq rfl ?_ ?_⟩
        ·repeat ((conv => whnf); refine Need.mk rfl ?_)
         exact trivial
        ·conv => whnf
         refine Need.mk (OLe.refl _) ?_
         exact trivial
     ·rintro hd102 _
      conv => whnf
      refine ⟨(n82, (w64 (n81 + 1), l65), hd102), hl74, Sub.eq rfl ?_ ?_, Nat.lt_succ_self _⟩
      ·repeat ((conv => whnf); refine Need.mk rfl ?_)
       exact trivial
      ·conv => whnf
       refine Need.mk (OLe.refl _) ?_
       exact trivial
    ·replace hl74 := ite_f hc1196 hl74
     cases hl74
     conv => whnf
     refine ⟨hd99, trivial, Sub.eq rfl ?_ ?_⟩
     ·repeat ((conv => whnf); refine Need.mk rfl ?_)
      exact trivial
     ·conv => whnf
      refine Need.mk (OLe.refl _) ?_
      exact trivial
  ·rintro hd85 _
   conv => whnf
   refine Side.mk rfl ?_
   conv => whnf
   cases h
   exact rfl

theorem law07AskedC {N : Nat} (hN : N ≤ 1073741824) {b1 : Ref07Book} {bowler1 : Int} {week1 : Int} {r : Int} (h : law07Asked N b1 bowler1 week1 = some r) :
    ACalls Try.prog 26 [.d (.agg [I b1.fLaw.fBase, I b1.fLaw.fPercent, I b1.fLaw.fCap, I b1.fLaw.fLeast, I b1.fLaw.fBlind, .list 1 (List.map I b1.fBowlers), .list 6 (List.map Ref07Sheet.enc b1.fSheets), .list 1 (List.map I b1.fWithdrawn)]), .d (I bowler1), .d (I week1)] [] fun e os => e = .ret (.d (I r)) ∧ os = [] := by
  refine acalls_f (fresh := false) tt_ok dr_ok ⟨[3], [], [], [], [4], 0, []⟩ Try.func26 rfl Try.call26 rfl ?_
  unfold law07Asked at h
  obtain ⟨r4, hx4, h⟩ := obind h
  conv => whnf
  refine CallG.pure _ (law07FaultC hN hx4) ?_
  conv => whnf
  refine Br.mk (fun hc2 => ?_) (fun hc2 => ?_)
  ·replace h := ite_t hc2 h
   conv => whnf
   cases h
   exact rfl
  ·replace h := ite_f hc2 h
   obtain ⟨v2, hx12, h⟩ := obind h
   conv => whnf
   refine SeqG.mk Unit (fun y => [(24, .d (.bool v2))]) (fun y => []) (fun _ => True) ?_ ?_
   ·conv => whnf
    refine LnA.mk _ (List.length_map _) ?_
    obtain ⟨r11, hx13, hx12⟩ := obind hx12
    conv => whnf
    refine CallG.pure _ (ref07InC hN hx13) ?_
    conv => whnf
    refine Br.mk (fun hc7 => ?_) (fun hc7 => ?_)
    ·replace hx12 := ite_f hc7 hx12
     obtain ⟨r12, hx14, hx12⟩ := obind hx12
     conv => whnf
     refine CallG.pure _ (ref07InC hN hx14) ?_
     cases hx12
     conv => whnf
     refine ⟨(), trivial, Sub.eq rfl ?_ ?_⟩
     ·repeat ((conv => whnf); refine Need.mk rfl ?_)
      exact trivial
     ·exact trivial
    ·replace hx12 := ite_t hc7 hx12
     cases hx12
     conv => whnf
     refine ⟨(), trivial, Sub.eq rfl ?_ ?_⟩
     ·repeat ((conv => whnf); refine Need.mk rfl ?_)
      exact trivial
     ·exact trivial
   ·rintro _ _
    conv => whnf
    refine Br.mk (fun hc8 => ?_) (fun hc8 => ?_)
    ·replace h := ite_t hc8 h
     conv => whnf
     cases h
     exact rfl
    ·replace h := ite_f hc8 h
     conv => whnf
     cases h
     exact rfl

theorem ref07OfC {N : Nat} (hN : N ≤ 1073741824) {b1 : Ref07Book} {bowler1 : Int} {week1 : Int} {r : (Ar3 Int) × Bool} (h : ref07Of N b1 bowler1 week1 = some r) :
    ACalls Try.prog 42 [.d (.agg [I b1.fLaw.fBase, I b1.fLaw.fPercent, I b1.fLaw.fCap, I b1.fLaw.fLeast, I b1.fLaw.fBlind, .list 1 (List.map I b1.fBowlers), .list 6 (List.map Ref07Sheet.enc b1.fSheets), .list 1 (List.map I b1.fWithdrawn)]), .d (I bowler1), .d (I week1)] [] fun e os => e = .ret (.d (.tup [.agg [I r.1.a0, I r.1.a1, I r.1.a2], .bool r.2])) ∧ os = [] := by
  refine acalls_f (fresh := false) tt_ok dr_ok ⟨[3], [], [], [], [5, 1001], 0, []⟩ Try.func42 rfl Try.call42 rfl ?_
  unfold ref07Of at h
  conv => whnf
  intro b3
  conv => whnf
  refine SeqG.mk Unit (fun y => [(6, .ptr 6 b3 0)]) (fun y => [(6, .cells b3 [.d (I 0), .d (I 0), .d (I 0)])]) (fun y => ref07Of_k1 N = some r) ?_ ?_
  ·conv => whnf
   refine LoopG.mk (Nat × Int) (fun y => [(1, .d (I bowler1)), (2, .d (I week1)), (3, .d (.ref (.agg [I b1.fLaw.fBase, I b1.fLaw.fPercent, I b1.fLaw.fCap, I b1.fLaw.fLeast, I b1.fLaw.fBlind, .list 1 (List.map I b1.fBowlers), .list 6 (List.map Ref07Sheet.enc b1.fSheets), .list 1 (List.map I b1.fWithdrawn)]))), (6, .ptr 6 b3 0), (8, .d (I y.2))]) (fun y => [(6, .cells b3 [.d (I 0), .d (I 0), .d (I 0)])]) (fun y => loopN (fun rr x => ref07Of_b2 N b1 bowler1 week1 rr x) y.1 y.2 = some r) (fun y => y.1) (N, 0) h (Sub.eq rfl ?_ ?_) ?_
   ·repeat ((conv => whnf); refine Need.mk rfl ?_)
    exact trivial
   ·conv => whnf
    refine Need.mk (OLe.refl _) ?_
    exact trivial
   ·rintro ⟨n2, i8⟩ hl2
    obtain ⟨n2, rfl, hl2⟩ := loopN_some hl2
    replace hl2 : ref07Of_b2 N b1 bowler1 week1 (loopN (fun rr x => ref07Of_b2 N b1 bowler1 week1 rr x) n2) i8 = some r := hl2
    rw [ref07Of_b2] at hl2
    conv => whnf
    refine LnA.mk _ (List.length_map _) ?_
    conv => whnf
    refine Br.mk (fun hc62 => ?_) (fun hc62 => ?_)
    ·replace hl2 := ite_t hc62 hl2
     obtain ⟨x24, hx57, hl2⟩ := obind hl2
     conv => whnf
     refine Side.mk rfl ⟨_, idx_0 hx57, idx_map _ hx57, ?_⟩
     conv => whnf
     intro b27
     conv => whnf
     refine Side.mk rfl ?_
     obtain ⟨v12, hx59, hl2⟩ := obind hl2
     conv => whnf
     refine SeqG.mk Unit (fun y => [(1, .d (I bowler1)), (2, .d (I week1)), (3, .d (.ref (.agg [I b1.fLaw.fBase, I b1.fLaw.fPercent, I b1.fLaw.fCap, I b1.fLaw.fLeast, I b1.fLaw.fBlind, .list 1 (List.map I b1.fBowlers), .list 6 (List.map Ref07Sheet.enc b1.fSheets), .list 1 (List.map I b1.fWithdrawn)]))), (6, .ptr 6 b3 0), (8, .d (I i8)), (9, .ptr 9 b27 0), (36, .d (.bool v12))]) (fun y => [(6, .cells b3 [.d (I 0), .d (I 0), .d (I 0)]), (9, .cells b27 [.d (I x24.fNumber), .d (I x24.fBowler), .d (I x24.fWeek), .d (I x24.fGames.a0), .d (I x24.fGames.a1), .d (I x24.fGames.a2)])]) (fun _ => True) ?_ ?_
     ·conv => whnf
      refine Side.mk rfl ?_
      conv => whnf
      refine Br.mk (fun hc70 => ?_) (fun hc70 => ?_)
      ·replace hx59 := ite_t hc70 hx59
       conv => whnf
       refine Side.mk rfl ?_
       conv => whnf
       refine Br.mk (fun hc71 => ?_) (fun hc71 => ?_)
       ·replace hx59 := ite_t hc71 hx59
        conv => whnf
        refine Side.mk rfl ?_
        obtain ⟨r24, hx60, hx59⟩ := obind hx59
        conv => whnf
        refine CallG.pure _ (ref07CountsC hN hx60) ?_
        cases hx59
        conv => whnf
        refine ⟨(), trivial, Sub.eq rfl ?_ ?_⟩
        ·repeat ((conv => whnf); refine Need.mk rfl ?_)
         exact trivial
        ·conv => whnf
         refine Need.mk (OLe.refl _) ?_
         conv => whnf
         refine Need.mk (OLe.refl _) ?_
         exact trivial
       ·replace hx59 := ite_f hc71 hx59
        cases hx59
        conv => whnf
        refine ⟨(), trivial, Sub.eq rfl ?_ ?_⟩
        ·repeat ((conv => whnf); refine Need.mk rfl ?_)
         exact trivial
        ·conv => whnf
         refine Need.mk (OLe.refl _) ?_
         conv => whnf
         refine Need.mk (OLe.refl _) ?_
         exact trivial
      ·replace hx59 := ite_f hc70 hx59
       cases hx59
       conv => whnf
       refine ⟨(), trivial, Sub.eq rfl ?_ ?_⟩
       ·repeat ((conv => whnf); refine Need.mk rfl ?_)
        exact trivial
       ·conv => whnf
        refine Need.mk (OLe.refl _) ?_
        conv => whnf
        refine Need.mk (OLe.refl _) ?_
        exact trivial
     ·rintro _ _
      conv => whnf
      refine Br.mk (fun hc72 => ?_) (fun hc72 => ?_)
      ·replace hl2 := ite_t hc72 hl2
       conv => whnf
       refine Side.mk rfl ?_
       conv => whnf
       refine Side.mk rfl ?_
       conv => whnf
       refine Side.mk rfl ?_
       conv => whnf
       cases hl2
       exact rfl
      ·replace hl2 := ite_f hc72 hl2
       conv => whnf
       refine ⟨(n2, w64 (i8 + 1)), hl2, Sub.eq rfl ?_ ?_, Nat.lt_succ_self _⟩
       ·repeat ((conv => whnf); refine Need.mk rfl ?_)
        exact trivial
       ·conv => whnf
        refine Need.mk (OLe.refl _) ?_
        exact trivial
    ·replace hl2 := ite_f hc62 hl2
     conv => whnf
     refine ⟨(), hl2, Sub.eq rfl ?_ ?_⟩
     ·repeat ((conv => whnf); refine Need.mk rfl ?_)
      exact trivial
     ·conv => whnf
      refine Need.mk (OLe.refl _) ?_
      exact trivial
  ·clear h
   rintro _ h
   unfold ref07Of_k1 at h
   conv => whnf
   refine Side.mk rfl ?_
   conv => whnf
   refine Side.mk rfl ?_
   conv => whnf
   cases h
   exact rfl

theorem ref07AverageC {N : Nat} (hN : N ≤ 1073741824) {b1 : Ref07Book} {bowler1 : Int} {week1 : Int} {games1 : Int} {sum1 : Int} {r : Int} (h : ref07Average N b1 bowler1 week1 games1 sum1 = some r) :
    ACalls Try.prog 27 [.d (.agg [I b1.fLaw.fBase, I b1.fLaw.fPercent, I b1.fLaw.fCap, I b1.fLaw.fLeast, I b1.fLaw.fBlind, .list 1 (List.map I b1.fBowlers), .list 6 (List.map Ref07Sheet.enc b1.fSheets), .list 1 (List.map I b1.fWithdrawn)]), .d (I bowler1), .d (I week1), .d (I games1), .d (I sum1)] [] fun e os => e = .ret (.d (I r)) ∧ os = [] := by
  refine acalls_f (fresh := false) tt_ok dr_ok ⟨[5], [], [], [], [1001, 1004], 0, []⟩ Try.func27 rfl Try.call27 rfl ?_
  unfold ref07Average at h
  obtain ⟨⟨games9, sum9⟩, hx16, h⟩ := obind h
  conv => whnf
  refine SeqG.mk Unit (fun y => [(1, .d (I bowler1)), (3, .d (I games9)), (4, .d (I sum9)), (5, .d (.ref (.agg [I b1.fLaw.fBase, I b1.fLaw.fPercent, I b1.fLaw.fCap, I b1.fLaw.fLeast, I b1.fLaw.fBlind, .list 1 (List.map I b1.fBowlers), .list 6 (List.map Ref07Sheet.enc b1.fSheets), .list 1 (List.map I b1.fWithdrawn)])))]) (fun y => []) (fun _ => True) ?_ ?_
  ·conv => whnf
   refine LoopG.mk (Nat × (Int × Int × Int)) (fun y => [(1, .d (I bowler1)), (2, .d (I week1)), (3, .d (I y.2.1)), (4, .d (I y.2.2.1)), (5, .d (.ref (.agg [I b1.fLaw.fBase, I b1.fLaw.fPercent, I b1.fLaw.fCap, I b1.fLaw.fLeast, I b1.fLaw.fBlind, .list 1 (List.map I b1.fBowlers), .list 6 (List.map Ref07Sheet.enc b1.fSheets), .list 1 (List.map I b1.fWithdrawn)]))), (11, .d (I y.2.2.2))]) (fun y => []) (fun y => loopN (fun rr x => ref07Average_b1 N b1 bowler1 week1 rr x.1 x.2.1 x.2.2) y.1 y.2 = some (games9, sum9)) (fun y => y.1) (N, (games1, sum1, 1)) hx16 (Sub.eq rfl ?_ ?_) ?_
   ·repeat ((conv => whnf); refine Need.mk rfl ?_)
    exact trivial
   ·exact trivial
   ·rintro ⟨n2, ⟨games15, sum15, w8⟩⟩ hl2
    obtain ⟨n2, rfl, hl2⟩ := loopN_some hl2
    replace hl2 : ref07Average_b1 N b1 bowler1 week1 (loopN (fun rr x => ref07Average_b1 N b1 bowler1 week1 rr x.1 x.2.1 x.2.2) n2) games15 sum15 w8 = some (games9, sum9) := hl2
    rw [ref07Average_b1] at hl2
    conv => whnf
    refine Br.mk (fun hc22 => ?_) (fun hc22 => ?_)
    ·replace hl2 := ite_t hc22 hl2
     obtain ⟨⟨games16, sum16⟩, hx29, hl2⟩ := obind hl2
     conv => whnf
     refine SeqG.mk Unit (fun y => [(1, .d (I bowler1)), (2, .d (I week1)), (3, .d (I games16)), (4, .d (I sum16)), (5, .d (.ref (.agg [I b1.fLaw.fBase, I b1.fLaw.fPercent, I b1.fLaw.fCap, I b1.fLaw.fLeast, I b1.fLaw.fBlind, .list 1 (List.map I b1.fBowlers), .list 6 (List.map Ref07Sheet.enc b1.fSheets), .list 1 (List.map I b1.fWithdrawn)]))), (11, .d (I w8))]) (fun y => []) (fun _ => True) ?_ ?_
     ·obtain ⟨⟨ra24, rb24⟩, hx31, hx29⟩ := obind hx29
      conv => whnf
      refine CallG.pure _ (ref07OfC hN hx31) ?_
      conv => whnf
      intro b25
      conv => whnf
      refine Side.mk rfl ?_
      conv => whnf
      refine Br.mk (fun hc24 => ?_) (fun hc24 => ?_)
      ·replace hx29 := ite_t hc24 hx29
       conv => whnf
       refine DrawG.mk (.take 0 (.take 1 (.take 2 (.take 3 (.take 4 (.take 5 (.take 6 (.take 7 (.take 8 (.take 9 (.take 10 (.take 11 (.alt 12 [11, 10, 9, 8, 7, 6, 5, 4, 3, 2] (.alt 13 [] .done .nil) .nil))))))))))))) (by kernel_rfl) ?_
       conv => whnf
       refine IxG.mk 0 rfl (by decide) ?_
       conv => whnf
       refine Side.mk rfl ?_
       conv => whnf
       refine IxG.mk 1 rfl (by decide) ?_
       conv => whnf
       refine Side.mk rfl ?_
       conv => whnf
       refine IxG.mk 2 rfl (by decide) ?_
       conv => whnf
       refine Side.mk rfl ?_
       conv => whnf
       refine Both.mk ?_ trivial
       conv => whnf
       refine Need.mk (AV.le_refl _) ?_
       conv => whnf
       refine Side.mk rfl ?_
       conv => whnf
       refine Need.mk (AV.le_refl _) ?_
       conv => whnf
       refine IxG.mk 2 rfl (by decide) ?_
       conv => whnf
       refine Need.mk (AV.le_refl _) ?_
       conv => whnf
       refine Need.mk (AV.le_refl _) ?_
       conv => whnf
       refine Side.mk rfl ?_
       conv => whnf
       refine Need.mk (AV.le_refl _) ?_
       conv => whnf
       refine IxG.mk 1 rfl (by decide) ?_
       conv => whnf
       refine Need.mk (AV.le_refl _) ?_
       conv => whnf
       refine Need.mk (AV.le_refl _) ?_
       conv => whnf
       refine Side.mk rfl ?_
       conv => whnf
       refine Need.mk (AV.le_refl _) ?_
       conv => whnf
       refine IxG.mk 0 rfl (by decide) ?_
       conv => whnf
       refine Need.mk (AV.le_refl _) ?_
       conv => whnf
       refine Need.mk (AV.le_refl _) ?_
       conv => whnf
       refine Both.mk ?_ trivial
       cases hx29
       conv => whnf
       refine ⟨(), trivial, Sub.eq rfl ?_ ?_⟩
       ·repeat ((conv => whnf); refine Need.mk rfl ?_)
        exact trivial
       ·exact trivial
      ·replace hx29 := ite_f hc24 hx29
       cases hx29
       conv => whnf
       refine ⟨(), trivial, Sub.eq rfl ?_ ?_⟩
       ·repeat ((conv => whnf); refine Need.mk rfl ?_)
        exact trivial
       ·exact trivial
     ·rintro _ _
      conv => whnf
      refine ⟨(n2, (games16, sum16, w64 (w8 + 1))), hl2, Sub.eq rfl ?_ ?_, Nat.lt_succ_self _⟩
      ·repeat ((conv => whnf); refine Need.mk rfl ?_)
       exact trivial
      ·exact trivial
    ·replace hl2 := ite_f hc22 hl2
     cases hl2
     conv => whnf
     refine ⟨(), trivial, Sub.eq rfl ?_ ?_⟩
     ·repeat ((conv => whnf); refine Need.mk rfl ?_)
      exact trivial
     ·exact trivial
  ·rintro _ _
   conv => whnf
   refine Br.mk (fun hc26 => ?_) (fun hc26 => ?_)
   ·replace h := ite_t hc26 h
    obtain ⟨x4, hx35, h⟩ := obind h
    conv => whnf
    refine Side.mk rfl ⟨_, idx_0 hx35, idx_map _ hx35, ?_⟩
    conv => whnf
    cases h
    exact rfl
   ·replace h := ite_f hc26 h
    obtain ⟨_, hx37, h⟩ := obind h
    conv => whnf
    refine Need.mk (nz_ne hx37) ?_
    conv => whnf
    cases h
    exact rfl

theorem ref07HandicapC {N : Nat} (hN : N ≤ 1073741824) {b1 : Ref07Book} {bowler1 : Int} {week1 : Int} {r : Int} (h : ref07Handicap N b1 bowler1 week1 = some r) :
    ACalls Try.prog 29 [.d (.agg [I b1.fLaw.fBase, I b1.fLaw.fPercent, I b1.fLaw.fCap, I b1.fLaw.fLeast, I b1.fLaw.fBlind, .list 1 (List.map I b1.fBowlers), .list 6 (List.map Ref07Sheet.enc b1.fSheets), .list 1 (List.map I b1.fWithdrawn)]), .d (I bowler1), .d (I week1)] [] fun e os => e = .ret (.d (I r)) ∧ os = [] := by
  refine acalls_f (fresh := false) tt_ok dr_ok ⟨[3], [], [], [], [], 0, []⟩ Try.func29 rfl Try.call29 rfl ?_
  unfold ref07Handicap at h
  obtain ⟨r2, hx2, h⟩ := obind h
  conv => whnf
  refine DrawG.mk (.take 0 (.take 1 (.take 2 (.take 3 (.take 4 (.take 5 (.alt 6 [2, 1, 0] (.take 7 (.take 8 .done)) .nil))))))) (by kernel_rfl) ?_
  conv => whnf
  refine Both.mk ?_ trivial
  conv => whnf
  refine CallG.pure _ (ref07AverageC hN hx2) ?_
  conv => whnf
  refine Need.mk (AV.le_refl _) ?_
  conv => whnf
  refine Need.mk (AV.le_refl _) ?_
  conv => whnf
  refine Need.mk (AV.le_refl _) ?_
  conv => whnf
  refine Br.mk (fun hc2 => ?_) (fun hc2 => ?_)
  ·replace h := ite_t hc2 h
   conv => whnf
   cases h
   exact rfl
  ·replace h := ite_f hc2 h
   conv => whnf
   refine Need.mk (by decide) ?_
   conv => whnf
   cases h
   exact rfl

theorem ref07TeamsFaultC {N : Nat} (hN : N ≤ 1073741824) {b1 : Ref07Book} {home1 : List Int} {away1 : List Int} {r : Int} (h : ref07TeamsFault N b1 home1 away1 = some r) :
    ACalls Try.prog 33 [.d (.agg [I b1.fLaw.fBase, I b1.fLaw.fPercent, I b1.fLaw.fCap, I b1.fLaw.fLeast, I b1.fLaw.fBlind, .list 1 (List.map I b1.fBowlers), .list 6 (List.map Ref07Sheet.enc b1.fSheets), .list 1 (List.map I b1.fWithdrawn)]), .d (.list 1 (List.map I home1)), .d (.list 1 (List.map I away1))] [] fun e os => e = .ret (.d (I r)) ∧ os = [] := by
  refine acalls_f (fresh := false) tt_ok dr_ok ⟨[3], [], [], [], [1, 4, 9, 1006], 0, []⟩ Try.func33 rfl Try.call33 rfl ?_
  unfold ref07TeamsFault at h
  obtain ⟨v2, hx2, h⟩ := obind h
  conv => whnf
  refine SeqG.mk Unit (fun y => [(1, .d (.list 1 (List.map I home1))), (2, .d (.list 1 (List.map I away1))), (3, .d (.ref (.agg [I b1.fLaw.fBase, I b1.fLaw.fPercent, I b1.fLaw.fCap, I b1.fLaw.fLeast, I b1.fLaw.fBlind, .list 1 (List.map I b1.fBowlers), .list 6 (List.map Ref07Sheet.enc b1.fSheets), .list 1 (List.map I b1.fWithdrawn)]))), (16, .d (.bool v2))]) (fun y => []) (fun _ => True) ?_ ?_
  ·conv => whnf
   refine LnA.mk _ (List.length_map _) ?_
   conv => whnf
   refine Br.mk (fun hc5 => ?_) (fun hc5 => ?_)
   ·replace hx2 := ite_f hc5 hx2
    conv => whnf
    refine LnA.mk _ (List.length_map _) ?_
    cases hx2
    conv => whnf
    refine ⟨(), trivial, Sub.eq rfl ?_ ?_⟩
    ·repeat ((conv => whnf); refine Need.mk rfl ?_)
     exact trivial
    ·exact trivial
   ·replace hx2 := ite_t hc5 hx2
    cases hx2
    conv => whnf
    refine ⟨(), trivial, Sub.eq rfl ?_ ?_⟩
    ·repeat ((conv => whnf); refine Need.mk rfl ?_)
     exact trivial
    ·exact trivial
  ·rintro _ _
   conv => whnf
   refine Br.mk (fun hc6 => ?_) (fun hc6 => ?_)
   ·replace h := ite_t hc6 h
    conv => whnf
    cases h
    exact rfl
   ·replace h := ite_f hc6 h
    conv => whnf
    intro hd4
    obtain ⟨l3, hx5, h⟩ := obind h
    conv => whnf
    refine Side.mk rfl ?_
    conv => whnf
    refine Side.mk ⟨rfl, rfl, rfl⟩ (Need.mk (app_need hN hx5 (by decide)) (Eqv.mk (List.map I l3) (app_map _ hx5) ?_))
    conv => whnf
    intro hd5
    obtain ⟨l4, hx6, h⟩ := obind h
    conv => whnf
    refine Side.mk rfl ?_
    conv => whnf
    refine Side.mk ⟨rfl, rfl, rfl⟩ (Need.mk (app_need hN hx6 (by decide)) (Eqv.mk (List.map I l4) (app_map _ hx6) ?_))
    conv => whnf
    intro hd6
    obtain ⟨v4, hx8, h⟩ := obind h
    conv => whnf
    refine SeqG.mk Unit (fun y => [(3, .d (.ref (.agg [I b1.fLaw.fBase, I b1.fLaw.fPercent, I b1.fLaw.fCap, I b1.fLaw.fLeast, I b1.fLaw.fBlind, .list 1 (List.map I b1.fBowlers), .list 6 (List.map Ref07Sheet.enc b1.fSheets), .list 1 (List.map I b1.fWithdrawn)]))), (7, .sl 17 hd6), (29, .d (.bool v4))]) (fun y => [(17, .arr hd6 3 1 false (List.map I l4))]) (fun _ => True) ?_ ?_
    ·conv => whnf
     refine LnA.mk _ (List.length_map _) ?_
     conv => whnf
     refine Br.mk (fun hc11 => ?_) (fun hc11 => ?_)
     ·replace hx8 := ite_f hc11 hx8
      conv => whnf
      refine LnA.mk _ (List.length_map _) ?_
      cases hx8
      conv => whnf
      refine ⟨(), trivial, Sub.eq rfl ?_ ?_⟩
      ·repeat ((conv => whnf); refine Need.mk rfl ?_)
       exact trivial
      ·conv => whnf
       refine Need.mk (OLe.refl _) ?_
       exact trivial
     ·replace hx8 := ite_t hc11 hx8
      cases hx8
      conv => whnf
      refine ⟨(), trivial, Sub.eq rfl ?_ ?_⟩
      ·repeat ((conv => whnf); refine Need.mk rfl ?_)
       exact trivial
      ·conv => whnf
       refine Need.mk (OLe.refl _) ?_
       exact trivial
    ·rintro _ _
     conv => whnf
     refine Br.mk (fun hc12 => ?_) (fun hc12 => ?_)
     ·replace h := ite_t hc12 h
      conv => whnf
      cases h
      exact rfl
     ·replace h := ite_f hc12 h
      conv => whnf
      refine SeqG.mk Unit (fun y => []) (fun y => []) (fun y => ref07TeamsFault_k1 N = some r) ?_ ?_
      ·conv => whnf
       refine LoopG.mk (Nat × (Int × (List Int))) (fun y => [(3, .d (.ref (.agg [I b1.fLaw.fBase, I b1.fLaw.fPercent, I b1.fLaw.fCap, I b1.fLaw.fLeast, I b1.fLaw.fBlind, .list 1 (List.map I b1.fBowlers), .list 6 (List.map Ref07Sheet.enc b1.fSheets), .list 1 (List.map I b1.fWithdrawn)]))), (7, .sl 17 hd6), (8, .d (I y.2.1))]) (fun y => [(17, .arr hd6 3 1 true (List.map I y.2.2))]) (fun y => loopN (fun rr x => ref07TeamsFault_b2 N b1 rr x.1 x.2) y.1 y.2 = some r) (fun y => y.1) (N, (0, l4)) h (Sub.eq rfl ?_ ?_) ?_
       ·repeat ((conv => whnf); refine Need.mk rfl ?_)
        exact trivial
       ·conv => whnf
        refine Need.mk (OLe.arr _ _ _ _ _) ?_
        exact trivial
       ·rintro ⟨n2, ⟨i8, l36⟩⟩ hl2
        obtain ⟨n2, rfl, hl2⟩ := loopN_some hl2
        replace hl2 : ref07TeamsFault_b2 N b1 (loopN (fun rr x => ref07TeamsFault_b2 N b1 rr x.1 x.2) n2) i8 l36 = some r := hl2
        rw [ref07TeamsFault_b2] at hl2
        conv => whnf
        refine Side.mk rfl (LnA.mk _ (List.length_map _) ?_)
        conv => whnf
        refine Br.mk (fun hc54 => ?_) (fun hc54 => ?_)
        ·replace hl2 := ite_t hc54 hl2
         obtain ⟨v16, hx112, hl2⟩ := obind hl2
         conv => whnf
         refine SeqG.mk Unit (fun y => [(3, .d (.ref (.agg [I b1.fLaw.fBase, I b1.fLaw.fPercent, I b1.fLaw.fCap, I b1.fLaw.fLeast, I b1.fLaw.fBlind, .list 1 (List.map I b1.fBowlers), .list 6 (List.map Ref07Sheet.enc b1.fSheets), .list 1 (List.map I b1.fWithdrawn)]))), (7, .sl 17 hd6), (8, .d (I i8)), (55, .d (.bool v16))]) (fun y => [(17, .arr hd6 3 1 true (List.map I l36))]) (fun _ => True) ?_ ?_
         ·obtain ⟨x24, hx113, hx112⟩ := obind hx112
          obtain ⟨r47, hx114, hx112⟩ := obind hx112
          conv => whnf
          refine DrawG.mk (.take 0 (.take 1 (.take 2 (.take 3 (.take 4 (.take 5 (.take 6 (.take 7 (.alt 8 [6, 5, 4, 2, 1, 0] (.take 9 (.take 10 (.spl 46 (.take 11 (.take 12 (.take 14 (.take 15 (.take 16 (.take 17 (.alt 13 [17, 16, 15, 14, 9, 6, 5, 4, 2, 1, 0] (.alt 18 [16, 15, 14, 9, 6, 5, 4, 2, 1, 0] (.take 19 .done) .nil) .nil)))))))))) .nil))))))))) (by kernel_rfl) ?_
          conv => whnf
          refine Side.mk ⟨rfl, rfl⟩ (Need.mk (idx_need _ hx113) ?_)
          conv => whnf
          refine Side.mk ⟨rfl, rfl⟩ ⟨_, Int.natCast_nonneg _, idx_el _ hx113, ?_⟩
          conv => whnf
          refine LnA.mk _ (List.length_map _) ?_
          conv => whnf
          refine Both.mk ?_ trivial
          conv => whnf
          refine CallG.pure _ (ref07InC hN hx114) ?_
          conv => whnf
          refine LnA.mk _ (List.length_map _) ?_
          conv => whnf
          refine Need.mk (AV.le_refl _) ?_
          conv => whnf
          refine Need.mk (AV.le_refl _) ?_
          conv => whnf
          refine Need.mk (AV.le_refl _) ?_
          conv => whnf
          refine Side.mk ⟨rfl, rfl⟩ (Need.mk (idx_need _ hx113) ?_)
          conv => whnf
          refine Need.mk (AV.le_refl _) ?_
          conv => whnf
          refine Need.mk (AV.le_refl _) ?_
          conv => whnf
          refine Need.mk (AV.le_refl _) ?_
          conv => whnf
          refine Br.mk (fun hc59 => ?_) (fun hc59 => ?_)
          ·replace hx112 := ite_t hc59 hx112
           conv => whnf
           refine Both.mk ?_ trivial
           conv => whnf
           refine Need.mk rfl ?_
           conv => whnf
           refine Need.mk rfl ?_
           conv => whnf
           refine Need.mk rfl ?_
           conv => whnf
           refine Need.mk rfl ?_
           conv => whnf
           refine Need.mk (AV.le_refl _) ?_
           conv => whnf
           refine LnA.mk _ (List.length_map _) ?_
           conv => whnf
           refine Need.mk (AV.le_refl _) ?_
           conv => whnf
           refine Need.mk (AV.le_refl _) ?_
           conv => whnf
           refine Need.mk (AV.le_refl _) ?_
           conv => whnf
           refine Side.mk ⟨rfl, rfl⟩ (Need.mk (idx_need _ hx113) ?_)
           conv => whnf
           refine Need.mk (AV.le_refl _) ?_
           conv => whnf
           refine Need.mk (AV.le_refl _) ?_
           conv => whnf
           refine Need.mk (AV.le_refl _) ?_
           conv => whnf
           refine Both.mk ?_ trivial
           conv => whnf
           refine Need.mk rfl ?_
           conv => whnf
           refine Need.mk rfl ?_
           conv => whnf
           refine Need.mk rfl ?_
           conv => whnf
           refine Need.mk (AV.le_refl _) ?_
           conv => whnf
           refine LnA.mk _ (List.length_map _) ?_
           conv => whnf
           refine Need.mk (AV.le_refl _) ?_
           conv => whnf
           refine Need.mk (AV.le_refl _) ?_
           conv => whnf
           refine Need.mk (AV.le_refl _) ?_
           conv => whnf
           refine Side.mk ⟨rfl, rfl⟩ (Need.mk (idx_need _ hx113) ?_)
           conv => whnf
           refine Need.mk (AV.le_refl _) ?_
           conv => whnf
           refine Need.mk (AV.le_refl _) ?_
           conv => whnf
           refine Need.mk (AV.le_refl _) ?_
           cases hx112
           conv => whnf
           refine ⟨(), trivial, Sub.eq rfl ?_ ?_⟩
           ·repeat ((conv => whnf); refine Need.mk rfl ?_)
            exact trivial
           ·conv => whnf
            refine Need.mk (OLe.refl _) ?_
            exact trivial
          ·replace hx112 := ite_f hc59 hx112
           obtain ⟨l40, hx115, hx112⟩ := obind hx112
           obtain ⟨r48, hx116, hx112⟩ := obind hx112
           conv => whnf
           refine Side.mk ⟨rfl, rfl⟩ (Need.mk (idx_need _ hx113) ?_)
           conv => whnf
           refine Side.mk ⟨rfl, rfl⟩ ⟨_, Int.natCast_nonneg _, idx_el _ hx113, ?_⟩
           conv => whnf
           refine Both.mk ?_ trivial
           conv => whnf
           refine Side.mk rfl ?_
           conv => whnf
           refine Need.mk (slc_need _ hx115) (Eqv.mk (List.map I l40) (slc_map _ hx115) ?_)
           conv => whnf
           refine Side.mk ⟨rfl, rfl⟩ ⟨_, Int.natCast_nonneg _, idx_el _ hx113, ?_⟩
           conv => whnf
           refine Need.mk (AV.le_refl _) ?_
           conv => whnf
           refine Side.mk ⟨rfl, rfl⟩ (Need.mk (idx_need _ hx113) ?_)
           conv => whnf
           refine Need.mk (AV.le_refl _) ?_
           conv => whnf
           refine Need.mk (AV.le_refl _) ?_
           conv => whnf
           refine Need.mk (AV.le_refl _) ?_
           conv => whnf
           refine Need.mk (AV.le_refl _) ?_
           conv => whnf
           refine LnA.mk _ (List.length_map _) ?_
           conv => whnf
           refine Need.mk (AV.le_refl _) ?_
           conv => whnf
           refine Need.mk (AV.le_refl _) ?_
           conv => whnf
           refine Need.mk (AV.le_refl _) ?_
           conv => whnf
           refine Side.mk ⟨rfl, rfl⟩ (Need.mk (idx_need _ hx113) ?_)
           conv => whnf
           refine Need.mk (AV.le_refl _) ?_
           conv => whnf
           refine Need.mk (AV.le_refl _) ?_
           conv => whnf
           refine Need.mk (AV.le_refl _) ?_
           conv => whnf
           refine Both.mk ?_ trivial
           conv => whnf
           refine CallG.pure _ (ref07HasC hN hx116) ?_
           conv => whnf
           refine Side.mk ⟨rfl, rfl⟩ (Need.mk (idx_need _ hx113) ?_)
           conv => whnf
           refine Need.mk (AV.le_refl _) ?_
           conv => whnf
           refine Need.mk (AV.le_refl _) ?_
           conv => whnf
           refine Need.mk (AV.le_refl _) ?_
           conv => whnf
           refine Need.mk (AV.le_refl _) ?_
           conv => whnf
           refine LnA.mk _ (List.length_map _) ?_
           conv => whnf
           refine Need.mk (AV.le_refl _) ?_
           conv => whnf
           refine Need.mk (AV.le_refl _) ?_
           conv => whnf
           refine Need.mk (AV.le_refl _) ?_
           conv => whnf
           refine Side.mk ⟨rfl, rfl⟩ (Need.mk (idx_need _ hx113) ?_)
           conv => whnf
           refine Need.mk (AV.le_refl _) ?_
           conv => whnf
           refine Need.mk (AV.le_refl _) ?_
           conv => whnf
           refine Need.mk (AV.le_refl _) ?_
           cases hx112
           conv => whnf
           refine ⟨(), trivial, Sub.eq rfl ?_ ?_⟩
           ·repeat ((conv => whnf); refine Need.mk rfl ?_)
            exact trivial
           ·conv => whnf
            refine Need.mk (OLe.refl _) ?_
            exact trivial
         ·rintro _ _
          conv => whnf
          refine Br.mk (fun hc60 => ?_) (fun hc60 => ?_)
          ·replace hl2 := ite_t hc60 hl2
           conv => whnf
           cases hl2
           exact rfl
          ·replace hl2 := ite_f hc60 hl2
           conv => whnf
           refine ⟨(n2, (w64 (i8 + 1), l36)), hl2, Sub.eq rfl ?_ ?_, Nat.lt_succ_self _⟩
           ·repeat ((conv => whnf); refine Need.mk rfl ?_)
            exact trivial
           ·conv => whnf
            refine Need.mk (OLe.refl _) ?_
            exact trivial
        ·replace hl2 := ite_f hc54 hl2
         conv => whnf
         refine ⟨(), hl2, Sub.eq rfl ?_ ?_⟩
         ·repeat ((conv => whnf); refine Need.mk rfl ?_)
          exact trivial
         ·exact trivial
      ·clear h
       rintro _ h
       unfold ref07TeamsFault_k1 at h
       conv => whnf
       cases h
       exact rfl

theorem ref07MakesC {N : Nat} (hN : N ≤ 1073741824) {b1 : Ref07Book} {bowler1 : Int} {week1 : Int} {game1 : Int} {r : Int} (h : ref07Makes N b1 bowler1 week1 game1 = some r) :
    ACalls Try.prog 82 [.d (.agg [I b1.fLaw.fBase, I b1.fLaw.fPercent, I b1.fLaw.fCap, I b1.fLaw.fLeast, I b1.fLaw.fBlind, .list 1 (List.map I b1.fBowlers), .list 6 (List.map Ref07Sheet.enc b1.fSheets), .list 1 (List.map I b1.fWithdrawn)]), .d (I bowler1), .d (I week1), .d (I game1)] [] fun e os => e = .ret (.d (I r)) ∧ os = [] := by
  refine acalls_f (fresh := false) tt_ok dr_ok ⟨[4], [], [], [], [4], 0, []⟩ Try.func82 rfl Try.call82 rfl ?_
  unfold ref07Makes at h
  obtain ⟨r2, hx2, h⟩ := obind h
  conv => whnf
  refine CallG.pure _ (ref07HandicapC hN hx2) ?_
  obtain ⟨⟨ra4, rb4⟩, hx7, h⟩ := obind h
  conv => whnf
  refine CallG.pure _ (ref07OfC hN hx7) ?_
  conv => whnf
  intro b5
  conv => whnf
  refine Side.mk rfl ?_
  conv => whnf
  refine Br.mk (fun hc8 => ?_) (fun hc8 => ?_)
  ·replace h := ite_t hc8 h
   obtain ⟨v2, hx8, h⟩ := obind h
   conv => whnf
   refine SeqG.mk Unit (fun y => [(8, .d (I v2))]) (fun y => []) (fun _ => True) ?_ ?_
   ·rcases bcases (decide (game1 = 0)) with hc12 | hc12
    ·replace hx8 := ite_t hc12 hx8
     conv => whnf
     refine IxG.mk 0 (of_decide_eq_true hc12) (by decide) ?_
     conv => whnf
     refine Side.mk rfl ?_
     cases hx8
     conv => whnf
     refine ⟨(), trivial, Sub.eq rfl ?_ ?_⟩
     ·repeat ((conv => whnf); refine Need.mk rfl ?_)
      exact trivial
     ·exact trivial
    ·replace hx8 := ite_f hc12 hx8
     rcases bcases (decide (game1 = 1)) with hc13 | hc13
     ·replace hx8 := ite_t hc13 hx8
      conv => whnf
      refine IxG.mk 1 (of_decide_eq_true hc13) (by decide) ?_
      conv => whnf
      refine Side.mk rfl ?_
      cases hx8
      conv => whnf
      refine ⟨(), trivial, Sub.eq rfl ?_ ?_⟩
      ·repeat ((conv => whnf); refine Need.mk rfl ?_)
       exact trivial
      ·exact trivial
     ·replace hx8 := ite_f hc13 hx8
      rcases bcases (decide (game1 = 2)) with hc14 | hc14
      ·replace hx8 := ite_t hc14 hx8
       conv => whnf
       refine IxG.mk 2 (of_decide_eq_true hc14) (by decide) ?_
       conv => whnf
       refine Side.mk rfl ?_
       cases hx8
       conv => whnf
       refine ⟨(), trivial, Sub.eq rfl ?_ ?_⟩
       ·repeat ((conv => whnf); refine Need.mk rfl ?_)
        exact trivial
       ·exact trivial
      ·replace hx8 := ite_f hc14 hx8
       cases hx8
   ·rintro _ _
    conv => whnf
    cases h
    exact rfl
  ·replace h := ite_f hc8 h
   obtain ⟨r4, hx10, h⟩ := obind h
   conv => whnf
   refine DrawG.mk (.take 0 (.take 1 (.take 2 (.take 4 (.take 5 (.take 6 (.take 9 (.alt 3 [9, 6, 5, 4] (.take 7 (.take 8 (.take 10 (.take 11 .done)))) .nil)))))))) (by kernel_rfl) ?_
   conv => whnf
   refine Both.mk ?_ trivial
   conv => whnf
   refine CallG.pure _ (ref07AverageC hN hx10) ?_
   conv => whnf
   refine Need.mk (AV.le_refl _) ?_
   conv => whnf
   refine Need.mk (AV.le_refl _) ?_
   conv => whnf
   refine Need.mk (AV.le_refl _) ?_
   conv => whnf
   refine Need.mk (AV.le_refl _) ?_
   conv => whnf
   cases h
   exact rfl

theorem ref07TeamC {N : Nat} (hN : N ≤ 1073741824) {b1 : Ref07Book} {team1 : List Int} {week1 : Int} {game1 : Int} {r : Int} (h : ref07Team N b1 team1 week1 game1 = some r) :
    ACalls Try.prog 62 [.d (.agg [I b1.fLaw.fBase, I b1.fLaw.fPercent, I b1.fLaw.fCap, I b1.fLaw.fLeast, I b1.fLaw.fBlind, .list 1 (List.map I b1.fBowlers), .list 6 (List.map Ref07Sheet.enc b1.fSheets), .list 1 (List.map I b1.fWithdrawn)]), .d (.list 1 (List.map I team1)), .d (I week1), .d (I game1)] [] fun e os => e = .ret (.d (I r)) ∧ os = [] := by
  refine acalls_f (fresh := false) tt_ok dr_ok ⟨[4], [], [], [], [1002], 0, []⟩ Try.func62 rfl Try.call62 rfl ?_
  unfold ref07Team at h
  obtain ⟨n6, hx13, h⟩ := obind h
  conv => whnf
  refine SeqG.mk Unit (fun y => [(9, .d (I n6))]) (fun y => []) (fun _ => True) ?_ ?_
  ·conv => whnf
   refine LoopG.mk (Nat × (Int × Int)) (fun y => [(1, .d (.list 1 (List.map I team1))), (2, .d (I week1)), (3, .d (I game1)), (4, .d (.ref (.agg [I b1.fLaw.fBase, I b1.fLaw.fPercent, I b1.fLaw.fCap, I b1.fLaw.fLeast, I b1.fLaw.fBlind, .list 1 (List.map I b1.fBowlers), .list 6 (List.map Ref07Sheet.enc b1.fSheets), .list 1 (List.map I b1.fWithdrawn)]))), (9, .d (I y.2.1)), (10, .d (I y.2.2))]) (fun y => []) (fun y => loopN (fun rr x => ref07Team_b1 N b1 team1 week1 game1 rr x.1 x.2) y.1 y.2 = some n6) (fun y => y.1) (N, (0, 0)) hx13 (Sub.eq rfl ?_ ?_) ?_
   ·repeat ((conv => whnf); refine Need.mk rfl ?_)
    exact trivial
   ·exact trivial
   ·rintro ⟨n11, ⟨n10, i8⟩⟩ hl2
    obtain ⟨n11, rfl, hl2⟩ := loopN_some hl2
    replace hl2 : ref07Team_b1 N b1 team1 week1 game1 (loopN (fun rr x => ref07Team_b1 N b1 team1 week1 game1 rr x.1 x.2) n11) n10 i8 = some n6 := hl2
    rw [ref07Team_b1] at hl2
    conv => whnf
    refine LnA.mk _ (List.length_map _) ?_
    conv => whnf
    refine Br.mk (fun hc12 => ?_) (fun hc12 => ?_)
    ·replace hl2 := ite_t hc12 hl2
     obtain ⟨x12, hx24, hl2⟩ := obind hl2
     obtain ⟨r12, hx25, hl2⟩ := obind hl2
     conv => whnf
     refine DrawG.mk (.take 0 (.take 1 (.take 2 (.take 3 (.take 4 (.take 5 (.take 6 (.take 7 (.alt 8 [4, 3, 2, 0] (.take 9 (.alt 10 [] .done .nil)) .nil))))))))) (by kernel_rfl) ?_
     conv => whnf
     refine Side.mk rfl ⟨_, idx_0 hx24, idx_map _ hx24, ?_⟩
     conv => whnf
     refine Both.mk ?_ trivial
     conv => whnf
     refine CallG.pure _ (ref07MakesC hN hx25) ?_
     conv => whnf
     refine Side.mk rfl ⟨_, idx_0 hx24, idx_map _ hx24, ?_⟩
     conv => whnf
     refine Need.mk (AV.le_refl _) ?_
     conv => whnf
     refine Need.mk (AV.le_refl _) ?_
     conv => whnf
     refine Need.mk (AV.le_refl _) ?_
     conv => whnf
     refine Need.mk (AV.le_refl _) ?_
     conv => whnf
     refine Both.mk ?_ trivial
     conv => whnf
     refine ⟨(n11, (w64 (n10 + r12), w64 (i8 + 1))), hl2, Sub.eq rfl ?_ ?_, Nat.lt_succ_self _⟩
     ·repeat ((conv => whnf); refine Need.mk rfl ?_)
      exact trivial
     ·exact trivial
    ·replace hl2 := ite_f hc12 hl2
     cases hl2
     conv => whnf
     refine ⟨(), trivial, Sub.eq rfl ?_ ?_⟩
     ·repeat ((conv => whnf); refine Need.mk rfl ?_)
      exact trivial
     ·exact trivial
  ·rintro _ _
   conv => whnf
   cases h
   exact rfl

theorem ref07PointsC {N : Nat} (hN : N ≤ 1073741824) {a1 : Int} {b1 : Int} {r : Int × Int} (h : ref07Points N a1 b1 = some r) :
    ACalls Try.prog 63 [.d (I a1), .d (I b1)] [] fun e os => e = .ret (.d (.tup [I r.1, I r.2])) ∧ os = [] := by
  refine acalls_f (fresh := false) tt_ok dr_ok ⟨[], [], [], [], [], 0, []⟩ Try.func63 rfl Try.call63 rfl ?_
  unfold ref07Points at h
  conv => whnf
  refine Br.mk (fun hc2 => ?_) (fun hc2 => ?_)
  ·replace h := ite_t hc2 h
   conv => whnf
   cases h
   exact rfl
  ·replace h := ite_f hc2 h
   conv => whnf
   refine Br.mk (fun hc4 => ?_) (fun hc4 => ?_)
   ·replace h := ite_t hc4 h
    conv => whnf
    cases h
    exact rfl
   ·replace h := ite_f hc4 h
    conv => whnf
    cases h
    exact rfl

theorem ref07MatchC {N : Nat} (hN : N ≤ 1073741824) {b1 : Ref07Book} {week1 : Int} {home1 : List Int} {away1 : List Int} {r : Int × Int} (h : ref07Match N b1 week1 home1 away1 = some r) :
    ACalls Try.prog 34 [.d (.agg [I b1.fLaw.fBase, I b1.fLaw.fPercent, I b1.fLaw.fCap, I b1.fLaw.fLeast, I b1.fLaw.fBlind, .list 1 (List.map I b1.fBowlers), .list 6 (List.map Ref07Sheet.enc b1.fSheets), .list 1 (List.map I b1.fWithdrawn)]), .d (I week1), .d (.list 1 (List.map I home1)), .d (.list 1 (List.map I away1))] [] fun e os => e = .ret (.d (.tup [I r.1, I r.2])) ∧ os = [] := by
  refine acalls_f (fresh := false) tt_ok dr_ok ⟨[4], [], [], [], [], 0, []⟩ Try.func34 rfl Try.call34 rfl ?_
  unfold ref07Match at h
  conv => whnf
  refine LoopG.unr 4 ?_
  obtain ⟨r31, hx45, h⟩ := obind h
  obtain ⟨r32, hx46, h⟩ := obind h
  conv => whnf
  refine DrawG.mk (.take 0 (.take 1 (.take 2 (.take 3 (.take 5 (.take 6 (.take 7 (.take 8 (.alt 4 [8, 7, 6, 5] (.alt 9 [] (.take 10 (.take 11 .done)) .nil) .nil))))))))) (by kernel_rfl) ?_
  conv => whnf
  refine Both.mk ?_ trivial
  conv => whnf
  refine CallG.pure _ (ref07TeamC hN hx45) ?_
  conv => whnf
  refine Need.mk (AV.le_refl _) ?_
  conv => whnf
  refine Need.mk (AV.le_refl _) ?_
  conv => whnf
  refine Need.mk (AV.le_refl _) ?_
  conv => whnf
  refine Need.mk (AV.le_refl _) ?_
  conv => whnf
  refine Both.mk ?_ trivial
  conv => whnf
  refine CallG.pure _ (ref07TeamC hN hx46) ?_
  obtain ⟨⟨ra16, rb16⟩, hx48, h⟩ := obind h
  conv => whnf
  refine CallG.pure _ (ref07PointsC hN hx48) ?_
  obtain ⟨r39, hx57, h⟩ := obind h
  obtain ⟨r40, hx58, h⟩ := obind h
  conv => whnf
  refine DrawG.mk (.take 0 (.take 1 (.take 2 (.take 3 (.take 5 (.take 6 (.take 7 (.take 8 (.alt 4 [8, 7, 6, 5] (.alt 9 [] (.take 10 (.take 11 .done)) .nil) .nil))))))))) (by kernel_rfl) ?_
  conv => whnf
  refine Both.mk ?_ trivial
  conv => whnf
  refine CallG.pure _ (ref07TeamC hN hx57) ?_
  conv => whnf
  refine Need.mk (AV.le_refl _) ?_
  conv => whnf
  refine Need.mk (AV.le_refl _) ?_
  conv => whnf
  refine Need.mk (AV.le_refl _) ?_
  conv => whnf
  refine Need.mk (AV.le_refl _) ?_
  conv => whnf
  refine Both.mk ?_ trivial
  conv => whnf
  refine CallG.pure _ (ref07TeamC hN hx58) ?_
  obtain ⟨⟨ra20, rb20⟩, hx60, h⟩ := obind h
  conv => whnf
  refine CallG.pure _ (ref07PointsC hN hx60) ?_
  obtain ⟨r47, hx69, h⟩ := obind h
  obtain ⟨r48, hx70, h⟩ := obind h
  conv => whnf
  refine DrawG.mk (.take 0 (.take 1 (.take 2 (.take 3 (.take 5 (.take 6 (.take 7 (.take 8 (.alt 4 [8, 7, 6, 5] (.alt 9 [] (.take 10 (.take 11 .done)) .nil) .nil))))))))) (by kernel_rfl) ?_
  conv => whnf
  refine Both.mk ?_ trivial
  conv => whnf
  refine CallG.pure _ (ref07TeamC hN hx69) ?_
  conv => whnf
  refine Need.mk (AV.le_refl _) ?_
  conv => whnf
  refine Need.mk (AV.le_refl _) ?_
  conv => whnf
  refine Need.mk (AV.le_refl _) ?_
  conv => whnf
  refine Need.mk (AV.le_refl _) ?_
  conv => whnf
  refine Both.mk ?_ trivial
  conv => whnf
  refine CallG.pure _ (ref07TeamC hN hx70) ?_
  obtain ⟨⟨ra24, rb24⟩, hx72, h⟩ := obind h
  conv => whnf
  refine CallG.pure _ (ref07PointsC hN hx72) ?_
  obtain ⟨⟨ra26, rb26⟩, hx74, h⟩ := obind h
  conv => whnf
  refine CallG.pure _ (ref07PointsC hN hx74) ?_
  conv => whnf
  cases h
  exact rfl

theorem ref07WeeksFaultC {N : Nat} (hN : N ≤ 1073741824) {b1 : Ref07Book} {bowler1 : Int} {week1 : Int} {weeks1 : List Int} {r : Int} (h : ref07WeeksFault N b1 bowler1 week1 weeks1 = some r) :
    ACalls Try.prog 36 [.d (.agg [I b1.fLaw.fBase, I b1.fLaw.fPercent, I b1.fLaw.fCap, I b1.fLaw.fLeast, I b1.fLaw.fBlind, .list 1 (List.map I b1.fBowlers), .list 6 (List.map Ref07Sheet.enc b1.fSheets), .list 1 (List.map I b1.fWithdrawn)]), .d (I bowler1), .d (I week1), .d (.list 1 (List.map I weeks1))] [] fun e os => e = .ret (.d (I r)) ∧ os = [] := by
  refine acalls_f (fresh := false) tt_ok dr_ok ⟨[4], [], [], [], [11, 1003, 1008], 0, []⟩ Try.func36 rfl Try.call36 rfl ?_
  unfold ref07WeeksFault at h
  obtain ⟨r4, hx4, h⟩ := obind h
  conv => whnf
  refine CallG.pure _ (ref07RisingC hN hx4) ?_
  conv => whnf
  refine Br.mk (fun hc2 => ?_) (fun hc2 => ?_)
  ·replace h := ite_t hc2 h
   conv => whnf
   cases h
   exact rfl
  ·replace h := ite_f hc2 h
   conv => whnf
   refine SeqG.mk Unit (fun y => [(1, .d (I bowler1)), (3, .d (.list 1 (List.map I weeks1))), (4, .d (.ref (.agg [I b1.fLaw.fBase, I b1.fLaw.fPercent, I b1.fLaw.fCap, I b1.fLaw.fLeast, I b1.fLaw.fBlind, .list 1 (List.map I b1.fBowlers), .list 6 (List.map Ref07Sheet.enc b1.fSheets), .list 1 (List.map I b1.fWithdrawn)])))]) (fun y => []) (fun y => ref07WeeksFault_k3 N b1 bowler1 weeks1 = some r) ?_ ?_
   ·conv => whnf
    refine LoopG.mk (Nat × Int) (fun y => [(1, .d (I bowler1)), (2, .d (I week1)), (3, .d (.list 1 (List.map I weeks1))), (4, .d (.ref (.agg [I b1.fLaw.fBase, I b1.fLaw.fPercent, I b1.fLaw.fCap, I b1.fLaw.fLeast, I b1.fLaw.fBlind, .list 1 (List.map I b1.fBowlers), .list 6 (List.map Ref07Sheet.enc b1.fSheets), .list 1 (List.map I b1.fWithdrawn)]))), (9, .d (I y.2))]) (fun y => []) (fun y => loopN (fun rr x => ref07WeeksFault_b4 N b1 bowler1 week1 weeks1 rr x) y.1 y.2 = some r) (fun y => y.1) (N, 0) h (Sub.eq rfl ?_ ?_) ?_
    ·repeat ((conv => whnf); refine Need.mk rfl ?_)
     exact trivial
    ·exact trivial
    ·rintro ⟨n4, i16⟩ hl4
     obtain ⟨n4, rfl, hl4⟩ := loopN_some hl4
     replace hl4 : ref07WeeksFault_b4 N b1 bowler1 week1 weeks1 (loopN (fun rr x => ref07WeeksFault_b4 N b1 bowler1 week1 weeks1 rr x) n4) i16 = some r := hl4
     rw [ref07WeeksFault_b4] at hl4
     conv => whnf
     refine LnA.mk _ (List.length_map _) ?_
     conv => whnf
     refine Br.mk (fun hc48 => ?_) (fun hc48 => ?_)
     ·replace hl4 := ite_t hc48 hl4
      obtain ⟨x48, hx111, hl4⟩ := obind hl4
      conv => whnf
      refine Side.mk rfl ⟨_, idx_0 hx111, idx_map _ hx111, ?_⟩
      obtain ⟨r28, hx112, hl4⟩ := obind hl4
      conv => whnf
      refine CallG.pure _ (ref07InC hN hx112) ?_
      conv => whnf
      refine Br.mk (fun hc50 => ?_) (fun hc50 => ?_)
      ·replace hl4 := ite_t hc50 hl4
       conv => whnf
       cases hl4
       exact rfl
      ·replace hl4 := ite_f hc50 hl4
       conv => whnf
       refine ⟨(n4, w64 (i16 + 1)), hl4, Sub.eq rfl ?_ ?_, Nat.lt_succ_self _⟩
       ·repeat ((conv => whnf); refine Need.mk rfl ?_)
        exact trivial
       ·exact trivial
     ·replace hl4 := ite_f hc48 hl4
      conv => whnf
      refine ⟨(), hl4, Sub.eq rfl ?_ ?_⟩
      ·repeat ((conv => whnf); refine Need.mk rfl ?_)
       exact trivial
      ·exact trivial
   ·clear h
    rintro _ h
    unfold ref07WeeksFault_k3 at h
    conv => whnf
    refine SeqG.mk Unit (fun y => []) (fun y => []) (fun y => ref07WeeksFault_k1 N = some r) ?_ ?_
    ·conv => whnf
     refine LoopG.mk (Nat × Int) (fun y => [(1, .d (I bowler1)), (3, .d (.list 1 (List.map I weeks1))), (4, .d (.ref (.agg [I b1.fLaw.fBase, I b1.fLaw.fPercent, I b1.fLaw.fCap, I b1.fLaw.fLeast, I b1.fLaw.fBlind, .list 1 (List.map I b1.fBowlers), .list 6 (List.map Ref07Sheet.enc b1.fSheets), .list 1 (List.map I b1.fWithdrawn)]))), (10, .d (I y.2))]) (fun y => []) (fun y => loopN (fun rr x => ref07WeeksFault_b2 N b1 bowler1 weeks1 rr x) y.1 y.2 = some r) (fun y => y.1) (N, 0) h (Sub.eq rfl ?_ ?_) ?_
     ·repeat ((conv => whnf); refine Need.mk rfl ?_)
      exact trivial
     ·exact trivial
     ·rintro ⟨n3, i12⟩ hl3
      obtain ⟨n3, rfl, hl3⟩ := loopN_some hl3
      replace hl3 : ref07WeeksFault_b2 N b1 bowler1 weeks1 (loopN (fun rr x => ref07WeeksFault_b2 N b1 bowler1 weeks1 rr x) n3) i12 = some r := hl3
      rw [ref07WeeksFault_b2] at hl3
      conv => whnf
      refine LnA.mk _ (List.length_map _) ?_
      conv => whnf
      refine Br.mk (fun hc36 => ?_) (fun hc36 => ?_)
      ·replace hl3 := ite_t hc36 hl3
       obtain ⟨is12, hx86, hl3⟩ := obind hl3
       conv => whnf
       refine SeqG.mk Unit (fun y => [(1, .d (I bowler1)), (3, .d (.list 1 (List.map I weeks1))), (4, .d (.ref (.agg [I b1.fLaw.fBase, I b1.fLaw.fPercent, I b1.fLaw.fCap, I b1.fLaw.fLeast, I b1.fLaw.fBlind, .list 1 (List.map I b1.fBowlers), .list 6 (List.map Ref07Sheet.enc b1.fSheets), .list 1 (List.map I b1.fWithdrawn)]))), (10, .d (I i12)), (12, .d (.bool is12))]) (fun y => []) (fun _ => True) ?_ ?_
       ·obtain ⟨x36, hx87, hx86⟩ := obind hx86
        obtain ⟨⟨ra24, rb24⟩, hx88, hx86⟩ := obind hx86
        conv => whnf
        refine DrawG.mk (.take 0 (.take 1 (.take 2 (.take 3 (.take 4 (.take 5 (.alt 6 [4, 3, 2] (.take 7 (.take 8 (.take 9 (.alt 10 [9, 8, 7, 4, 3, 2] (.alt 11 [9] (.take 12 .done) .nil) .nil)))) (.alt 10 [5, 4, 3, 2, 1, 0] (.alt 6 [4, 3, 2] (.take 7 (.take 8 (.take 9 (.alt 11 [9] (.take 12 .done) .nil)))) .nil) .nil)))))))) (by kernel_rfl) ?_
        conv => whnf
        refine Side.mk rfl ⟨_, idx_0 hx87, idx_map _ hx87, ?_⟩
        conv => whnf
        refine Both.mk ?_ ?_
        ·conv => whnf
         refine CallG.pure _ (ref07OfC hN hx88) ?_
         conv => whnf
         refine Side.mk rfl ⟨_, idx_0 hx87, idx_map _ hx87, ?_⟩
         conv => whnf
         refine Need.mk (AV.le_refl _) ?_
         conv => whnf
         refine Need.mk (AV.le_refl _) ?_
         conv => whnf
         refine Need.mk (AV.le_refl _) ?_
         conv => whnf
         refine Both.mk ?_ trivial
         conv => whnf
         intro b72
         conv => whnf
         refine Need.mk (AV.le_refl _) ?_
         conv => whnf
         refine Need.mk (AV.le_refl _) ?_
         conv => whnf
         refine Need.mk (AV.le_refl _) ?_
         conv => whnf
         refine Side.mk rfl ⟨_, idx_0 hx87, idx_map _ hx87, ?_⟩
         conv => whnf
         refine Need.mk (AV.le_refl _) ?_
         conv => whnf
         refine Need.mk (AV.le_refl _) ?_
         conv => whnf
         refine Need.mk (AV.le_refl _) ?_
         conv => whnf
         refine Both.mk ?_ trivial
         conv => whnf
         refine Side.mk rfl ?_
         conv => whnf
         refine Need.mk (AV.le_refl _) ?_
         cases hx86
         conv => whnf
         refine ⟨(), trivial, Sub.eq rfl ?_ ?_⟩
         ·repeat ((conv => whnf); refine Need.mk rfl ?_)
          exact trivial
         ·exact trivial
        ·conv => whnf
         refine Both.mk ?_ trivial
         conv => whnf
         intro b73
         conv => whnf
         refine Need.mk (AV.le_refl _) ?_
         conv => whnf
         refine Side.mk rfl ⟨_, idx_0 hx87, idx_map _ hx87, ?_⟩
         conv => whnf
         refine Need.mk (AV.le_refl _) ?_
         conv => whnf
         refine Need.mk (AV.le_refl _) ?_
         conv => whnf
         refine Need.mk (AV.le_refl _) ?_
         conv => whnf
         refine Need.mk (AV.le_refl _) ?_
         conv => whnf
         refine Need.mk (AV.le_refl _) ?_
         conv => whnf
         refine Both.mk ?_ trivial
         conv => whnf
         refine CallG.pure _ (ref07OfC hN hx88) ?_
         conv => whnf
         refine Side.mk rfl ⟨_, idx_0 hx87, idx_map _ hx87, ?_⟩
         conv => whnf
         refine Need.mk (AV.le_refl _) ?_
         conv => whnf
         refine Need.mk (AV.le_refl _) ?_
         conv => whnf
         refine Need.mk (AV.le_refl _) ?_
         conv => whnf
         refine Both.mk ?_ trivial
         conv => whnf
         refine Side.mk rfl ?_
         conv => whnf
         refine Need.mk (AV.le_refl _) ?_
         cases hx86
         conv => whnf
         refine ⟨(), trivial, Sub.eq rfl ?_ ?_⟩
         ·repeat ((conv => whnf); refine Need.mk rfl ?_)
          exact trivial
         ·exact trivial
       ·rintro _ _
        conv => whnf
        refine Br.mk (fun hc38 => ?_) (fun hc38 => ?_)
        ·replace hl3 := ite_t hc38 hl3
         conv => whnf
         cases hl3
         exact rfl
        ·replace hl3 := ite_f hc38 hl3
         conv => whnf
         refine ⟨(n3, w64 (i12 + 1)), hl3, Sub.eq rfl ?_ ?_, Nat.lt_succ_self _⟩
         ·repeat ((conv => whnf); refine Need.mk rfl ?_)
          exact trivial
         ·exact trivial
      ·replace hl3 := ite_f hc36 hl3
       conv => whnf
       refine ⟨(), hl3, Sub.eq rfl ?_ ?_⟩
       ·repeat ((conv => whnf); refine Need.mk rfl ?_)
        exact trivial
       ·exact trivial
    ·clear h
     rintro _ h
     unfold ref07WeeksFault_k1 at h
     conv => whnf
     cases h
     exact rfl

theorem law07ReadyC {N : Nat} (hN : N ≤ 1073741824) {b1 : Ref07Book} {r : Bool} (h : law07Ready N b1 = some r) :
    ACalls Try.prog 38 [.d (.agg [I b1.fLaw.fBase, I b1.fLaw.fPercent, I b1.fLaw.fCap, I b1.fLaw.fLeast, I b1.fLaw.fBlind, .list 1 (List.map I b1.fBowlers), .list 6 (List.map Ref07Sheet.enc b1.fSheets), .list 1 (List.map I b1.fWithdrawn)])] [] fun e os => e = .ret (.d (.bool r)) ∧ os = [] := by
  refine acalls_f (fresh := false) tt_ok dr_ok ⟨[1], [], [], [], [1], 0, []⟩ Try.func38 rfl Try.call38 rfl ?_
  unfold law07Ready at h
  obtain ⟨v1, hx3, h⟩ := obind h
  conv => whnf
  refine SeqG.mk Unit (fun y => [(2, .d (.bool v1))]) (fun y => []) (fun _ => True) ?_ ?_
  ·obtain ⟨r3, hx4, hx3⟩ := obind hx3
   conv => whnf
   refine CallG.pure _ (law07ThinC hN hx4) ?_
   conv => whnf
   refine Br.mk (fun hc2 => ?_) (fun hc2 => ?_)
   ·replace hx3 := ite_t hc2 hx3
    obtain ⟨r4, hx5, hx3⟩ := obind hx3
    conv => whnf
    refine CallG.pure _ (ref07FaultC hN hx5) ?_
    cases hx3
    conv => whnf
    refine ⟨(), trivial, Sub.eq rfl ?_ ?_⟩
    ·repeat ((conv => whnf); refine Need.mk rfl ?_)
     exact trivial
    ·exact trivial
   ·replace hx3 := ite_f hc2 hx3
    cases hx3
    conv => whnf
    refine ⟨(), trivial, Sub.eq rfl ?_ ?_⟩
    ·repeat ((conv => whnf); refine Need.mk rfl ?_)
     exact trivial
    ·exact trivial
  ·rintro _ _
   conv => whnf
   cases h
   exact rfl

theorem law07SameC {N : Nat} (hN : N ≤ 1073741824) {a1 : Ref07Book} {b1 : Ref07Book} {bowler1 : Int} {week1 : Int} {r : Bool} (h : law07Same N a1 b1 bowler1 week1 = some r) :
    ACalls Try.prog 39 [.d (.agg [I a1.fLaw.fBase, I a1.fLaw.fPercent, I a1.fLaw.fCap, I a1.fLaw.fLeast, I a1.fLaw.fBlind, .list 1 (List.map I a1.fBowlers), .list 6 (List.map Ref07Sheet.enc a1.fSheets), .list 1 (List.map I a1.fWithdrawn)]), .d (.agg [I b1.fLaw.fBase, I b1.fLaw.fPercent, I b1.fLaw.fCap, I b1.fLaw.fLeast, I b1.fLaw.fBlind, .list 1 (List.map I b1.fBowlers), .list 6 (List.map Ref07Sheet.enc b1.fSheets), .list 1 (List.map I b1.fWithdrawn)]), .d (I bowler1), .d (I week1)] [] fun e os => e = .ret (.d (.bool r)) ∧ os = [] := by
  refine acalls_f (fresh := false) tt_ok dr_ok ⟨[4, 5], [], [], [], [5], 0, []⟩ Try.func39 rfl Try.call39 rfl ?_
  unfold law07Same at h
  obtain ⟨r2, hx3, h⟩ := obind h
  conv => whnf
  refine CallG.pure _ (law07BookC hN hx3) ?_
  obtain ⟨⟨ra2, rb2⟩, hx4, h⟩ := obind h
  conv => whnf
  refine CallG.pure _ (rateAverageC hN hx4) ?_
  obtain ⟨r4, hx7, h⟩ := obind h
  conv => whnf
  refine CallG.pure _ (law07BookC hN hx7) ?_
  obtain ⟨⟨ra4, rb4⟩, hx8, h⟩ := obind h
  conv => whnf
  refine CallG.pure _ (rateAverageC hN hx8) ?_
  obtain ⟨r6, hx11, h⟩ := obind h
  conv => whnf
  refine CallG.pure _ (law07BookC hN hx11) ?_
  obtain ⟨⟨ra6, rb6⟩, hx12, h⟩ := obind h
  conv => whnf
  refine CallG.pure _ (rateHandicapC hN hx12) ?_
  obtain ⟨r8, hx15, h⟩ := obind h
  conv => whnf
  refine CallG.pure _ (law07BookC hN hx15) ?_
  obtain ⟨⟨ra8, rb8⟩, hx16, h⟩ := obind h
  conv => whnf
  refine CallG.pure _ (rateHandicapC hN hx16) ?_
  obtain ⟨v1, hx17, h⟩ := obind h
  conv => whnf
  refine SeqG.mk Unit (fun y => [(8, .d (.bool v1))]) (fun y => []) (fun _ => True) ?_ ?_
  ·conv => whnf
   refine Br.mk (fun hc6 => ?_) (fun hc6 => ?_)
   ·replace hx17 := ite_t hc6 hx17
    conv => whnf
    refine Br.mk (fun hc7 => ?_) (fun hc7 => ?_)
    ·replace hx17 := ite_t hc7 hx17
     conv => whnf
     refine Br.mk (fun hc8 => ?_) (fun hc8 => ?_)
     ·replace hx17 := ite_t hc8 hx17
      conv => whnf
      refine Br.mk (fun hc9 => ?_) (fun hc9 => ?_)
      ·replace hx17 := ite_t hc9 hx17
       conv => whnf
       refine Br.mk (fun hc10 => ?_) (fun hc10 => ?_)
       ·replace hx17 := ite_t hc10 hx17
        cases hx17
        conv => whnf
        refine ⟨(), trivial, Sub.eq rfl ?_ ?_⟩
        ·repeat ((conv => whnf); refine Need.mk rfl ?_)
         exact trivial
        ·exact trivial
       ·replace hx17 := ite_f hc10 hx17
        cases hx17
        conv => whnf
        refine ⟨(), trivial, Sub.eq rfl ?_ ?_⟩
        ·repeat ((conv => whnf); refine Need.mk rfl ?_)
         exact trivial
        ·exact trivial
      ·replace hx17 := ite_f hc9 hx17
       cases hx17
       conv => whnf
       refine ⟨(), trivial, Sub.eq rfl ?_ ?_⟩
       ·repeat ((conv => whnf); refine Need.mk rfl ?_)
        exact trivial
       ·exact trivial
     ·replace hx17 := ite_f hc8 hx17
      cases hx17
      conv => whnf
      refine ⟨(), trivial, Sub.eq rfl ?_ ?_⟩
      ·repeat ((conv => whnf); refine Need.mk rfl ?_)
       exact trivial
      ·exact trivial
    ·replace hx17 := ite_f hc7 hx17
     cases hx17
     conv => whnf
     refine ⟨(), trivial, Sub.eq rfl ?_ ?_⟩
     ·repeat ((conv => whnf); refine Need.mk rfl ?_)
      exact trivial
     ·exact trivial
   ·replace hx17 := ite_f hc6 hx17
    cases hx17
    conv => whnf
    refine ⟨(), trivial, Sub.eq rfl ?_ ?_⟩
    ·repeat ((conv => whnf); refine Need.mk rfl ?_)
     exact trivial
    ·exact trivial
  ·rintro _ _
   conv => whnf
   cases h
   exact rfl

theorem law07TakenC {N : Nat} (hN : N ≤ 1073741824) {b1 : Ref07Book} {number1 : Int} {r : Bool} (h : law07Taken N b1 number1 = some r) :
    ACalls Try.prog 43 [.d (.agg [I b1.fLaw.fBase, I b1.fLaw.fPercent, I b1.fLaw.fCap, I b1.fLaw.fLeast, I b1.fLaw.fBlind, .list 1 (List.map I b1.fBowlers), .list 6 (List.map Ref07Sheet.enc b1.fSheets), .list 1 (List.map I b1.fWithdrawn)]), .d (I number1)] [] fun e os => e = .ret (.d (.bool r)) ∧ os = [] := by
  refine acalls_f (fresh := false) tt_ok dr_ok ⟨[2], [], [], [], [1001], 0, []⟩ Try.func43 rfl Try.call43 rfl ?_
  unfold law07Taken at h
  conv => whnf
  refine SeqG.mk Unit (fun y => []) (fun y => []) (fun y => law07Taken_k1 N = some r) ?_ ?_
  ·conv => whnf
   refine LoopG.mk (Nat × Int) (fun y => [(1, .d (I number1)), (2, .d (.ref (.agg [I b1.fLaw.fBase, I b1.fLaw.fPercent, I b1.fLaw.fCap, I b1.fLaw.fLeast, I b1.fLaw.fBlind, .list 1 (List.map I b1.fBowlers), .list 6 (List.map Ref07Sheet.enc b1.fSheets), .list 1 (List.map I b1.fWithdrawn)]))), (5, .d (I y.2))]) (fun y => []) (fun y => loopN (fun rr x => law07Taken_b2 N b1 number1 rr x) y.1 y.2 = some r) (fun y => y.1) (N, 0) h (Sub.eq rfl ?_ ?_) ?_
   ·repeat ((conv => whnf); refine Need.mk rfl ?_)
    exact trivial
   ·exact trivial
   ·rintro ⟨n2, i8⟩ hl2
    obtain ⟨n2, rfl, hl2⟩ := loopN_some hl2
    replace hl2 : law07Taken_b2 N b1 number1 (loopN (fun rr x => law07Taken_b2 N b1 number1 rr x) n2) i8 = some r := hl2
    rw [law07Taken_b2] at hl2
    conv => whnf
    refine LnA.mk _ (List.length_map _) ?_
    conv => whnf
    refine Br.mk (fun hc22 => ?_) (fun hc22 => ?_)
    ·replace hl2 := ite_t hc22 hl2
     obtain ⟨x24, hx24, hl2⟩ := obind hl2
     conv => whnf
     refine Side.mk rfl ⟨_, idx_0 hx24, idx_map _ hx24, ?_⟩
     conv => whnf
     refine Br.mk (fun hc24 => ?_) (fun hc24 => ?_)
     ·replace hl2 := ite_t hc24 hl2
      conv => whnf
      cases hl2
      exact rfl
     ·replace hl2 := ite_f hc24 hl2
      conv => whnf
      refine ⟨(n2, w64 (i8 + 1)), hl2, Sub.eq rfl ?_ ?_, Nat.lt_succ_self _⟩
      ·repeat ((conv => whnf); refine Need.mk rfl ?_)
       exact trivial
      ·exact trivial
    ·replace hl2 := ite_f hc22 hl2
     conv => whnf
     refine ⟨(), hl2, Sub.eq rfl ?_ ?_⟩
     ·repeat ((conv => whnf); refine Need.mk rfl ?_)
      exact trivial
     ·exact trivial
  ·clear h
   rintro _ h
   unfold law07Taken_k1 at h
   conv => whnf
   cases h
   exact rfl
end Go.Proofs.Ytmencjafjcmbaaa
