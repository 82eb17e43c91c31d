/-
  Walks: what the typed functions compute, the program’s functions return.
-/
import Derived.Test.YtignpdbcgjllkaaGreatWe
import Derived.Test.YtignpdbcgjllkaaGreatVa
import Derived.Test.YtignpdbcgjllkaaGreatVb
import Derived.Test.YtignpdbcgjllkaaGreatVc
import Derived.Test.YtignpdbcgjllkaaGreatVd
namespace Go.Proofs.YtignpdbcgjllkaaGreat
open Go Go.Abs Go.Kp
set_option maxRecDepth 100000
set_option maxHeartbeats 8000000
set_option linter.all false
theorem slicesAppendSeqC {N : Nat} (hN : N ≤ 1073741824) {c1 : Int} {c2 : Int} {c3 : Int} {c4 : List LadderResult} {c5 : List LadderPair} {m1 : List (Int × LadderResult)} {l1 : List (Ar2 Int)} {bo1 : Nat} {bo2 : Nat} {bo3 : Nat} {ho1 : Value} {r : (List LadderMatch)} (h : slicesAppendSeq N c1 c2 c3 c4 c5 m1 l1 = some r) :
    ACalls Tryz.prog 55 [.nils 5, .fn (.func 56) [] [.ptr 2135001 bo1 0]] [(2135001, .cells bo1 [.ptr 125040 bo2 0]), (125040, .cells bo2 [.d (.int .u8 c1), .d (I c2), .d (I c3), .d (.list 3 (List.map LadderResult.enc c4)), .d (.list 4 (List.map LadderPair.enc c5)), .mp 125038 bo3, .sl 1275055 ho1]), (125038, .map bo3 (List.map (fun p => (I p.1, .agg [I p.2.fMatch, .list 1 (List.map I p.2.fGames), .bool p.2.fProtested])) m1)), (1275055, .arr ho1 135 2 false (List.map (fun x => .agg [I x.a0, I x.a1]) l1))] fun ae os => ∃ y : Unit, True ∧ ae = .ret (.d (.list 5 (List.map LadderMatch.enc r))) ∧ os = [(2135001, .cells bo1 [.ptr 125040 bo2 0]), (125040, .cells bo2 [.d (.int .u8 c1), .d (I c2), .d (I c3), .d (.list 3 (List.map LadderResult.enc c4)), .d (.list 4 (List.map LadderPair.enc c5)), .mp 125038 bo3, .sl 1275055 ho1]), (125038, .map bo3 (List.map (fun p => (I p.1, .agg [I p.2.fMatch, .list 1 (List.map I p.2.fGames), .bool p.2.fProtested])) m1)), (1275055, .arr ho1 135 2 false (List.map (fun x => .agg [I x.a0, I x.a1]) l1))] := by
  refine acalls_own (fresh := false) tt_ok dr_ok ⟨[], [], [], [], [1001], 2140000, []⟩ Tryz.func55 rfl Tryz.call55 rfl ?_
  unfold slicesAppendSeq at h
  (conv=>whnf);intro b2;obtain ⟨l21, hx94, h⟩ := obind h;(conv=>whnf);refine SeqG.mk Value (fun y => [(2, .ptr 2140002 b2 0)]) (fun y => [(2140002, .cells b2 [.sl 2140011 y]), (2135001, .cells bo1 [.ptr 125040 bo2 0]), (2140011, .arr y 43 5 false (List.map LadderMatch.enc l21)), (125040, .cells bo2 [.d (.int .u8 c1), .d (I c2), .d (I c3), .d (.list 3 (List.map LadderResult.enc c4)), .d (.list 4 (List.map LadderPair.enc c5)), .mp 125038 bo3, .sl 1275055 ho1]), (125038, .map bo3 (List.map (fun p => (I p.1, .agg [I p.2.fMatch, .list 1 (List.map I p.2.fGames), .bool p.2.fProtested])) m1)), (1275055, .arr ho1 135 2 false (List.map (fun x => .agg [I x.a0, I x.a1]) l1))]) (fun _ => True) ?_ ?_
  ·(conv=>whnf);intro lp2 rc2;refine IterG.mk _ _ ⟨[], [], [], [], [3, 4, 1002], 2000, []⟩ Tryz.func56 rfl Tryz.call56 rfl rfl ?_;(conv=>whnf);refine sr ?_;(conv=>whnf);refine sr ?_;(conv=>whnf);refine Side.mk rfl (LnA.mk _ (List.length_map _) ?_);(conv=>whnf)
   refine LoopG.mk (Nat × (Int × Int × (List LadderMatch)) × Value) (fun y => [(0, .fn (.yield lp2) [] []), (1, .ptr 2135001 bo1 0), (9, .sl 1275055 ho1), (10, .d (I y.2.1.1)), (11, .d (I y.2.1.2.1))]) (fun y => [(2135001, .cells bo1 [.ptr 125040 bo2 0]), (1275055, .arr ho1 135 2 false (List.map (fun x => .agg [I x.a0, I x.a1]) l1)), (2140002, .cells b2 [.sl 2140011 y.2.2]), (1000, .loop lp2 rc2 none), (125040, .cells bo2 [.d (.int .u8 c1), .d (I c2), .d (I c3), .d (.list 3 (List.map LadderResult.enc c4)), .d (.list 4 (List.map LadderPair.enc c5)), .mp 125038 bo3, .sl 1275055 ho1]), (2140011, .arr y.2.2 43 5 false (List.map LadderMatch.enc y.2.1.2.2)), (125038, .map bo3 (List.map (fun p => (I p.1, .agg [I p.2.fMatch, .list 1 (List.map I p.2.fGames), .bool p.2.fProtested])) m1))]) (fun y => loopN (fun rr x => slicesAppendSeq_b1 N c1 c2 c3 c4 c5 m1 l1 rr x.1 x.2.1 x.2.2) y.1 y.2.1 = some l21) (fun y => y.1) (N, ((l1.length : Int), 0, []), (.slice none 0 0)) hx94 (Sub.eq rfl ?_ ?_) ?_
   ·(repeat ((conv=>whnf);refine nr ?_));exact trivial
   ·(conv=>whnf);refine no ?_;(conv=>whnf);refine no ?_;(conv=>whnf);refine Need.mk (OLe.cells _ _ _ (by repeat (first | exact trivial | ((conv => whnf); refine Need.mk rfl ?_)))) ?_;(conv=>whnf);refine no ?_;(conv=>whnf);refine no ?_;(conv=>whnf);refine Need.mk (OLe.nil _ _ _ _) ?_;(conv=>whnf);refine no ?_;exact trivial
   ·rintro ⟨n2, ⟨v57, v58, l35⟩, hd54⟩ hl2;obtain ⟨n2, rfl, hl2⟩ := loopN_some hl2;replace hl2 : slicesAppendSeq_b1 N c1 c2 c3 c4 c5 m1 l1 (loopN (fun rr x => slicesAppendSeq_b1 N c1 c2 c3 c4 c5 m1 l1 rr x.1 x.2.1 x.2.2) n2) v57 v58 l35 = some l21 := hl2;rw [slicesAppendSeq_b1] at hl2;(conv=>whnf);refine Br.mk (fun hc112 => ?_) (fun hc112 => ?_)
    ·replace hl2 := ite_t hc112 hl2;obtain ⟨l38, hx172, hl2⟩ := obind hl2;(conv=>whnf);refine SeqG.mk Value (fun y => [(0, .fn (.yield lp2) [] []), (1, .ptr 2135001 bo1 0), (9, .sl 1275055 ho1), (10, .d (I v57)), (11, .d (I v58))]) (fun y => [(2135001, .cells bo1 [.ptr 125040 bo2 0]), (1275055, .arr ho1 135 2 false (List.map (fun x => .agg [I x.a0, I x.a1]) l1)), (2140002, .cells b2 [.sl 2140011 y]), (1000, .loop lp2 rc2 none), (125040, .cells bo2 [.d (.int .u8 c1), .d (I c2), .d (I c3), .d (.list 3 (List.map LadderResult.enc c4)), .d (.list 4 (List.map LadderPair.enc c5)), .mp 125038 bo3, .sl 1275055 ho1]), (2140011, .arr y 43 5 false (List.map LadderMatch.enc l38)), (125038, .map bo3 (List.map (fun p => (I p.1, .agg [I p.2.fMatch, .list 1 (List.map I p.2.fGames), .bool p.2.fProtested])) m1))]) (fun _ => True) ?_ ?_
     ·obtain ⟨x24, hx174, hx172⟩ := obind hx172;(conv=>whnf);refine Side.mk ⟨rfl, rfl⟩ (Need.mk (idx_need _ hx174) ?_);(conv=>whnf);refine Side.mk ⟨rfl, rfl⟩ ⟨_, Int.natCast_nonneg _, idx_el _ hx174, ?_⟩;(conv=>whnf);intro b136;(conv=>whnf);refine sr ?_;obtain ⟨v64, hx179, hx172⟩ := obind hx172;(conv=>whnf)
      refine SeqG.mk Unit (fun y => [(0, .fn (.yield lp2) [] []), (1, .ptr 2135001 bo1 0), (3, .d (I v58)), (4, .ptr 2004 b136 0), (9, .sl 1275055 ho1), (10, .d (I v57)), (11, .d (I v58)), (29, .d (.bool v64))]) (fun y => [(2135001, .cells bo1 [.ptr 125040 bo2 0]), (2004, .cells b136 [.d (I x24.a0), .d (I x24.a1)]), (1275055, .arr ho1 135 2 false (List.map (fun x => .agg [I x.a0, I x.a1]) l1)), (2140002, .cells b2 [.sl 2140011 hd54]), (1000, .loop lp2 rc2 none), (125040, .cells bo2 [.d (.int .u8 c1), .d (I c2), .d (I c3), .d (.list 3 (List.map LadderResult.enc c4)), .d (.list 4 (List.map LadderPair.enc c5)), .mp 125038 bo3, .sl 1275055 ho1]), (2140011, .arr hd54 43 5 false (List.map LadderMatch.enc l35)), (125038, .map bo3 (List.map (fun p => (I p.1, .agg [I p.2.fMatch, .list 1 (List.map I p.2.fGames), .bool p.2.fProtested])) m1))]) (fun _ => True) ?_ ?_
      ·(conv=>whnf);refine IxG.mk 0 rfl (by decide) ?_;(conv=>whnf);refine sr ?_;(conv=>whnf);refine Br.mk (fun hc130 => ?_) (fun hc130 => ?_)
       ·replace hx179 := ite_f hc130 hx179;(conv=>whnf);refine IxG.mk 1 rfl (by decide) ?_;(conv=>whnf);refine sr ?_;(conv=>whnf);refine Br.mk (fun hc131 => ?_) (fun hc131 => ?_)
        ·replace hx179 := ite_f hc131 hx179;(conv=>whnf);refine sr ?_;obtain ⟨r70, hx180, hx179⟩ := obind hx179;(conv=>whnf)
         refine CallG.own (ladderDrawWonXXXXXC (bo1 := bo2) (bo2 := bo3) (ho1 := ho1) hN hx180) id [(2135001, .cells bo1 [.ptr 125040 bo2 0]), (2140002, .cells b2 [.sl 2140011 hd54]), (1000, .loop lp2 rc2 none), (2140011, .arr hd54 43 5 false (List.map LadderMatch.enc l35)), (2004, .cells b136 [.d (I x24.a0), .d (I x24.a1)])] _ (fun y => [(125040, .cells bo2 [.d (.int .u8 c1), .d (I c2), .d (I c3), .d (.list 3 (List.map LadderResult.enc c4)), .d (.list 4 (List.map LadderPair.enc c5)), .mp 125038 bo3, .sl 1275055 ho1]), (125038, .map bo3 (List.map (fun p => (I p.1, .agg [I p.2.fMatch, .list 1 (List.map I p.2.fGames), .bool p.2.fProtested])) m1)), (1275055, .arr ho1 135 2 false (List.map (fun x => .agg [I x.a0, I x.a1]) l1)), (2135001, .cells bo1 [.ptr 125040 bo2 0]), (2140002, .cells b2 [.sl 2140011 hd54]), (1000, .loop lp2 rc2 none), (2140011, .arr hd54 43 5 false (List.map LadderMatch.enc l35)), (2004, .cells b136 [.d (I x24.a0), .d (I x24.a1)])]) (all2_le_refl _) (And.intro rfl (And.intro rfl (And.intro rfl trivial))) rfl (And.intro rfl (And.intro rfl (And.intro rfl trivial))) (And.intro rfl (And.intro rfl (And.intro rfl (And.intro rfl (And.intro rfl trivial))))) (fun _ => AV.le_refl _) (fun _ => rfl) ?_
         rintro _ _;cases hx179;(conv=>whnf);refine ⟨(), trivial, Sub.eq rfl ?_ ?_⟩
         ·(repeat ((conv=>whnf);refine nr ?_));exact trivial
         ·(conv=>whnf);refine no ?_;(conv=>whnf);refine no ?_;(conv=>whnf);refine no ?_;(conv=>whnf);refine no ?_;(conv=>whnf);refine no ?_;(conv=>whnf);refine no ?_;(conv=>whnf);refine no ?_;(conv=>whnf);refine no ?_;exact trivial
        ·replace hx179 := ite_t hc131 hx179;cases hx179;(conv=>whnf);refine ⟨(), trivial, Sub.eq rfl ?_ ?_⟩
         ·(repeat ((conv=>whnf);refine nr ?_));exact trivial
         ·(conv=>whnf);refine no ?_;(conv=>whnf);refine no ?_;(conv=>whnf);refine no ?_;(conv=>whnf);refine no ?_;(conv=>whnf);refine no ?_;(conv=>whnf);refine no ?_;(conv=>whnf);refine no ?_;(conv=>whnf);refine no ?_;exact trivial
       ·replace hx179 := ite_t hc130 hx179;cases hx179;(conv=>whnf);refine ⟨(), trivial, Sub.eq rfl ?_ ?_⟩
        ·(repeat ((conv=>whnf);refine nr ?_));exact trivial
        ·(conv=>whnf);refine no ?_;(conv=>whnf);refine no ?_;(conv=>whnf);refine no ?_;(conv=>whnf);refine no ?_;(conv=>whnf);refine no ?_;(conv=>whnf);refine no ?_;(conv=>whnf);refine no ?_;(conv=>whnf);refine no ?_;exact trivial
      ·rintro _ _;(conv=>whnf);refine Br.mk (fun hc132 => ?_) (fun hc132 => ?_)
       ·replace hx172 := ite_t hc132 hx172;cases hx172;(conv=>whnf);refine ⟨hd54, trivial, Sub.eq rfl ?_ ?_⟩
        ·(repeat ((conv=>whnf);refine nr ?_));exact trivial
        ·(conv=>whnf);refine no ?_;(conv=>whnf);refine no ?_;(conv=>whnf);refine no ?_;(conv=>whnf);refine no ?_;(conv=>whnf);refine no ?_;(conv=>whnf);refine no ?_;(conv=>whnf);refine no ?_;exact trivial
       ·replace hx172 := ite_f hc132 hx172;obtain ⟨c17, hx183, hx172⟩ := obind hx172;(conv=>whnf)
        refine SeqG.mk Nat (fun y => [(0, .fn (.yield lp2) [] []), (1, .ptr 2135001 bo1 0), (3, .d (I v58)), (4, .ptr 2004 b136 0), (5, .ptr 2005 y 0), (9, .sl 1275055 ho1), (10, .d (I v57)), (11, .d (I v58))]) (fun y => [(2135001, .cells bo1 [.ptr 125040 bo2 0]), (2004, .cells b136 [.d (I x24.a0), .d (I x24.a1)]), (2005, .cells y [.d (I c17.a0), .d (I c17.a1)]), (1275055, .arr ho1 135 2 false (List.map (fun x => .agg [I x.a0, I x.a1]) l1)), (2140002, .cells b2 [.sl 2140011 hd54]), (1000, .loop lp2 rc2 none), (125040, .cells bo2 [.d (.int .u8 c1), .d (I c2), .d (I c3), .d (.list 3 (List.map LadderResult.enc c4)), .d (.list 4 (List.map LadderPair.enc c5)), .mp 125038 bo3, .sl 1275055 ho1]), (2140011, .arr hd54 43 5 false (List.map LadderMatch.enc l35)), (125038, .map bo3 (List.map (fun p => (I p.1, .agg [I p.2.fMatch, .list 1 (List.map I p.2.fGames), .bool p.2.fProtested])) m1))]) (fun _ => True) ?_ ?_
        ·obtain ⟨⟨v66, is24⟩, hx184, hx183⟩ := obind hx183;obtain ⟨r72, hx185, hx183⟩ := obind hx183;(conv=>whnf);refine DrawG.mk (.take 0 (.take 1 (.take 2 (.take 3 (.take 4 (.take 5 (.take 6 (.alt 7 [4, 3, 2, 1, 0] (.take 8 (.alt 9 [4, 3, 2] (.alt 10 [4, 3, 2] (.alt 11 [] .done .nil) .nil) (.alt 10 [8, 4, 3, 2, 1, 0] (.alt 9 [4, 3, 2] (.alt 11 [] .done .nil) .nil) .nil))) (.alt 10 [6, 5, 4, 3, 2, 1, 0] (.alt 7 [4, 3, 2, 1, 0] (.take 8 (.alt 9 [4, 3, 2] (.alt 11 [] .done .nil) .nil)) .nil) .nil))))))))) (by kernel_rfl) ?_;(conv=>whnf);refine sr ?_;(conv=>whnf);refine sr ?_;(conv=>whnf);refine sr ?_;(conv=>whnf);refine Both.mk ?_ ?_
         ·(conv=>whnf);refine Side.mk rfl (Need.mk rfl (Need.mk (fit_all (m := m1) (fun x : Int => I x) (fun x : LadderResult => .agg [I x.fMatch, .list 1 (List.map I x.fGames), .bool x.fProtested]) fun _ => rfl) (LkG.mk (.agg [I v66.fMatch, .list 1 (List.map I v66.fGames), .bool v66.fProtested]) is24 (mgt_v (eK := (fun x : Int => I x)) (eV := (fun x : LadderResult => .agg [I x.fMatch, .list 1 (List.map I x.fGames), .bool x.fProtested])) eqc_int hx184) (mgt_b (eK := (fun x : Int => I x)) (eV := (fun x : LadderResult => .agg [I x.fMatch, .list 1 (List.map I x.fGames), .bool x.fProtested])) eqc_int hx184) ?_)));(conv=>whnf);refine nl ?_;(conv=>whnf);refine nl ?_;(conv=>whnf);refine sr ?_;(conv=>whnf);refine nl ?_;(conv=>whnf);refine nl ?_;(conv=>whnf);refine sr ?_;(conv=>whnf);refine nl ?_;(conv=>whnf);refine Both.mk ?_ ?_
          ·(conv=>whnf)
           refine CallG.own (ladderDrawScoreXXXXXC (bo1 := bo2) (bo2 := bo3) (ho1 := ho1) hN hx185) id [(2135001, .cells bo1 [.ptr 125040 bo2 0]), (2004, .cells b136 [.d (I x24.a0), .d (I x24.a1)]), (2140002, .cells b2 [.sl 2140011 hd54]), (1000, .loop lp2 rc2 none), (2140011, .arr hd54 43 5 false (List.map LadderMatch.enc l35))] _ (fun y => [(125040, .cells bo2 [.d (.int .u8 c1), .d (I c2), .d (I c3), .d (.list 3 (List.map LadderResult.enc c4)), .d (.list 4 (List.map LadderPair.enc c5)), .mp 125038 bo3, .sl 1275055 ho1]), (125038, .map bo3 (List.map (fun p => (I p.1, .agg [I p.2.fMatch, .list 1 (List.map I p.2.fGames), .bool p.2.fProtested])) m1)), (1275055, .arr ho1 135 2 false (List.map (fun x => .agg [I x.a0, I x.a1]) l1)), (2135001, .cells bo1 [.ptr 125040 bo2 0]), (2004, .cells b136 [.d (I x24.a0), .d (I x24.a1)]), (2140002, .cells b2 [.sl 2140011 hd54]), (1000, .loop lp2 rc2 none), (2140011, .arr hd54 43 5 false (List.map LadderMatch.enc l35))]) (all2_le_refl _) (And.intro rfl (And.intro rfl (And.intro rfl trivial))) rfl (And.intro rfl (And.intro rfl (And.intro rfl trivial))) (And.intro rfl (And.intro rfl (And.intro rfl (And.intro rfl (And.intro rfl trivial))))) (fun _ => AV.le_refl _) (fun _ => rfl) ?_
           rintro _ _;(conv=>whnf);refine nl ?_;(conv=>whnf);refine nl ?_;(conv=>whnf);refine sr ?_;(conv=>whnf);refine nl ?_;(conv=>whnf);refine Both.mk ?_ trivial;(conv=>whnf);intro b142;(conv=>whnf);refine nl ?_;(conv=>whnf);refine nl ?_;(conv=>whnf);refine sr ?_;(conv=>whnf);refine nl ?_;(conv=>whnf);refine Both.mk ?_ trivial;(conv=>whnf);refine sr ?_;cases hx183;(conv=>whnf);refine ⟨b142, trivial, Sub.eq rfl ?_ ?_⟩
           ·(repeat ((conv=>whnf);refine nr ?_));exact trivial
           ·(conv=>whnf);refine no ?_;(conv=>whnf);refine no ?_;(conv=>whnf);refine no ?_;(conv=>whnf);refine no ?_;(conv=>whnf);refine no ?_;(conv=>whnf);refine no ?_;(conv=>whnf);refine no ?_;(conv=>whnf);refine no ?_;(conv=>whnf);refine no ?_;exact trivial
          ·(conv=>whnf);refine Both.mk ?_ trivial;(conv=>whnf);intro b143;(conv=>whnf);refine nl ?_;(conv=>whnf);refine nl ?_;(conv=>whnf);refine nl ?_;(conv=>whnf);refine sr ?_;(conv=>whnf);refine nl ?_;(conv=>whnf);refine nl ?_;(conv=>whnf);refine sr ?_;(conv=>whnf);refine nl ?_;(conv=>whnf);refine Both.mk ?_ trivial;(conv=>whnf)
           refine CallG.own (ladderDrawScoreXXXXXC (bo1 := bo2) (bo2 := bo3) (ho1 := ho1) hN hx185) id [(2135001, .cells bo1 [.ptr 125040 bo2 0]), (2004, .cells b136 [.d (I x24.a0), .d (I x24.a1)]), (2140002, .cells b2 [.sl 2140011 hd54]), (1000, .loop lp2 rc2 none), (2140011, .arr hd54 43 5 false (List.map LadderMatch.enc l35)), (2005, .cells b143 [.d (I 0), .d (I 0)])] _ (fun y => [(125040, .cells bo2 [.d (.int .u8 c1), .d (I c2), .d (I c3), .d (.list 3 (List.map LadderResult.enc c4)), .d (.list 4 (List.map LadderPair.enc c5)), .mp 125038 bo3, .sl 1275055 ho1]), (125038, .map bo3 (List.map (fun p => (I p.1, .agg [I p.2.fMatch, .list 1 (List.map I p.2.fGames), .bool p.2.fProtested])) m1)), (1275055, .arr ho1 135 2 false (List.map (fun x => .agg [I x.a0, I x.a1]) l1)), (2135001, .cells bo1 [.ptr 125040 bo2 0]), (2004, .cells b136 [.d (I x24.a0), .d (I x24.a1)]), (2140002, .cells b2 [.sl 2140011 hd54]), (1000, .loop lp2 rc2 none), (2140011, .arr hd54 43 5 false (List.map LadderMatch.enc l35)), (2005, .cells b143 [.d (I 0), .d (I 0)])]) (all2_le_refl _) (And.intro rfl (And.intro rfl (And.intro rfl trivial))) rfl (And.intro rfl (And.intro rfl (And.intro rfl trivial))) (And.intro rfl (And.intro rfl (And.intro rfl (And.intro rfl (And.intro rfl (And.intro rfl trivial)))))) (fun _ => AV.le_refl _) (fun _ => rfl) ?_
           rintro _ _;(conv=>whnf);refine nl ?_;(conv=>whnf);refine nl ?_;(conv=>whnf);refine sr ?_;(conv=>whnf);refine nl ?_;(conv=>whnf);refine Both.mk ?_ trivial;(conv=>whnf);refine sr ?_;cases hx183;(conv=>whnf);refine ⟨b143, trivial, Sub.eq rfl ?_ ?_⟩
           ·(repeat ((conv=>whnf);refine nr ?_));exact trivial
           ·(conv=>whnf);refine no ?_;(conv=>whnf);refine no ?_;(conv=>whnf);refine no ?_;(conv=>whnf);refine no ?_;(conv=>whnf);refine no ?_;(conv=>whnf);refine no ?_;(conv=>whnf);refine no ?_;(conv=>whnf);refine no ?_;(conv=>whnf);refine no ?_;exact trivial
         ·(conv=>whnf);refine Both.mk ?_ trivial;(conv=>whnf);intro b144;(conv=>whnf);refine nl ?_;(conv=>whnf);refine sr ?_;(conv=>whnf);refine nl ?_;(conv=>whnf);refine nl ?_;(conv=>whnf);refine nl ?_;(conv=>whnf);refine sr ?_;(conv=>whnf);refine nl ?_;(conv=>whnf);refine nl ?_;(conv=>whnf);refine sr ?_;(conv=>whnf);refine nl ?_;(conv=>whnf);refine Both.mk ?_ trivial;(conv=>whnf)
          refine Side.mk rfl (Need.mk rfl (Need.mk (fit_all (m := m1) (fun x : Int => I x) (fun x : LadderResult => .agg [I x.fMatch, .list 1 (List.map I x.fGames), .bool x.fProtested]) fun _ => rfl) (LkG.mk (.agg [I v66.fMatch, .list 1 (List.map I v66.fGames), .bool v66.fProtested]) is24 (mgt_v (eK := (fun x : Int => I x)) (eV := (fun x : LadderResult => .agg [I x.fMatch, .list 1 (List.map I x.fGames), .bool x.fProtested])) eqc_int hx184) (mgt_b (eK := (fun x : Int => I x)) (eV := (fun x : LadderResult => .agg [I x.fMatch, .list 1 (List.map I x.fGames), .bool x.fProtested])) eqc_int hx184) ?_)));(conv=>whnf);refine nl ?_;(conv=>whnf);refine nl ?_;(conv=>whnf);refine sr ?_;(conv=>whnf);refine nl ?_;(conv=>whnf);refine nl ?_;(conv=>whnf);refine sr ?_;(conv=>whnf);refine nl ?_;(conv=>whnf);refine Both.mk ?_ trivial;(conv=>whnf)
          refine CallG.own (ladderDrawScoreXXXXXC (bo1 := bo2) (bo2 := bo3) (ho1 := ho1) hN hx185) id [(2135001, .cells bo1 [.ptr 125040 bo2 0]), (2004, .cells b136 [.d (I x24.a0), .d (I x24.a1)]), (2140002, .cells b2 [.sl 2140011 hd54]), (1000, .loop lp2 rc2 none), (2140011, .arr hd54 43 5 false (List.map LadderMatch.enc l35)), (2005, .cells b144 [.d (I 0), .d (I 0)])] _ (fun y => [(125040, .cells bo2 [.d (.int .u8 c1), .d (I c2), .d (I c3), .d (.list 3 (List.map LadderResult.enc c4)), .d (.list 4 (List.map LadderPair.enc c5)), .mp 125038 bo3, .sl 1275055 ho1]), (125038, .map bo3 (List.map (fun p => (I p.1, .agg [I p.2.fMatch, .list 1 (List.map I p.2.fGames), .bool p.2.fProtested])) m1)), (1275055, .arr ho1 135 2 false (List.map (fun x => .agg [I x.a0, I x.a1]) l1)), (2135001, .cells bo1 [.ptr 125040 bo2 0]), (2004, .cells b136 [.d (I x24.a0), .d (I x24.a1)]), (2140002, .cells b2 [.sl 2140011 hd54]), (1000, .loop lp2 rc2 none), (2140011, .arr hd54 43 5 false (List.map LadderMatch.enc l35)), (2005, .cells b144 [.d (I 0), .d (I 0)])]) (all2_le_refl _) (And.intro rfl (And.intro rfl (And.intro rfl trivial))) rfl (And.intro rfl (And.intro rfl (And.intro rfl trivial))) (And.intro rfl (And.intro rfl (And.intro rfl (And.intro rfl (And.intro rfl (And.intro rfl trivial)))))) (fun _ => AV.le_refl _) (fun _ => rfl) ?_
          rintro _ _;(conv=>whnf);refine nl ?_;(conv=>whnf);refine nl ?_;(conv=>whnf);refine sr ?_;(conv=>whnf);refine nl ?_;(conv=>whnf);refine Both.mk ?_ trivial;(conv=>whnf);refine sr ?_;cases hx183;(conv=>whnf);refine ⟨b144, trivial, Sub.eq rfl ?_ ?_⟩
          ·(repeat ((conv=>whnf);refine nr ?_));exact trivial
          ·(conv=>whnf);refine no ?_;(conv=>whnf);refine no ?_;(conv=>whnf);refine no ?_;(conv=>whnf);refine no ?_;(conv=>whnf);refine no ?_;(conv=>whnf);refine no ?_;(conv=>whnf);refine no ?_;(conv=>whnf);refine no ?_;(conv=>whnf);refine no ?_;exact trivial
        ·rintro bb12 _;(conv=>whnf);refine IxG.mk 0 rfl (by decide) ?_;(conv=>whnf);refine sr ?_;(conv=>whnf);refine IxG.mk 1 rfl (by decide) ?_;(conv=>whnf);refine sr ?_;(conv=>whnf);refine IxG.mk 0 rfl (by decide) ?_;(conv=>whnf);refine sr ?_;(conv=>whnf);refine IxG.mk 1 rfl (by decide) ?_;(conv=>whnf);refine sr ?_;(conv=>whnf);refine Side.mk ⟨rfl, rfl, rfl⟩ ?_;(conv=>whnf);intro b146;(conv=>whnf);refine sr ?_;(conv=>whnf);refine sr ?_;(conv=>whnf);refine sr ?_;(conv=>whnf);intro hd62;obtain ⟨l40, hx187, hx172⟩ := obind hx172;(conv=>whnf);refine Side.mk ⟨rfl, rfl⟩ ?_;(conv=>whnf);refine Side.mk ⟨rfl, rfl, rfl⟩ (Need.mk (app_need hN hx187 (by decide)) (Eqv.mk (List.map LadderMatch.enc l40) (app_map _ hx187) ?_));(conv=>whnf);intro hd63;(conv=>whnf);refine sr ?_;cases hx172;(conv=>whnf);refine ⟨hd63, trivial, Sub.eq rfl ?_ ?_⟩
         ·(repeat ((conv=>whnf);refine nr ?_));exact trivial
         ·(conv=>whnf);refine no ?_;(conv=>whnf);refine no ?_;(conv=>whnf);refine no ?_;(conv=>whnf);refine no ?_;(conv=>whnf);refine no ?_;(conv=>whnf);refine no ?_;(conv=>whnf);refine no ?_;exact trivial
     ·rintro hd59 _;(conv=>whnf);refine ⟨(n2, (v57, w64 (v58 + 1), l38), hd59), hl2, Sub.eq rfl ?_ ?_, Nat.lt_succ_self _⟩
      ·(repeat ((conv=>whnf);refine nr ?_));exact trivial
      ·(conv=>whnf);refine no ?_;(conv=>whnf);refine no ?_;(conv=>whnf);refine no ?_;(conv=>whnf);refine no ?_;(conv=>whnf);refine no ?_;(conv=>whnf);refine no ?_;(conv=>whnf);refine no ?_;exact trivial
    ·replace hl2 := ite_f hc112 hl2;(conv=>whnf);refine Side.mk ⟨rfl, rfl⟩ ?_;cases hl2;(conv=>whnf);refine ⟨hd54, trivial, Sub.eq rfl ?_ ?_⟩
     ·(repeat ((conv=>whnf);refine nr ?_));exact trivial
     ·(conv=>whnf);refine no ?_;(conv=>whnf);refine no ?_;(conv=>whnf);refine no ?_;(conv=>whnf);refine no ?_;(conv=>whnf);refine no ?_;(conv=>whnf);refine no ?_;exact trivial
  ·rintro hd32 _;(conv=>whnf);refine sr ?_;(conv=>whnf);refine sr ?_;(conv=>whnf);cases h;exact ⟨(), trivial, rfl, inO_at (ren := id) (And.intro rfl (And.intro rfl (And.intro rfl (And.intro rfl trivial))))⟩
theorem slicesCollectC {N : Nat} (hN : N ≤ 1073741824) {c1 : Int} {c2 : Int} {c3 : Int} {c4 : List LadderResult} {c5 : List LadderPair} {m1 : List (Int × LadderResult)} {l1 : List (Ar2 Int)} {bo1 : Nat} {bo2 : Nat} {bo3 : Nat} {ho1 : Value} {r : (List LadderMatch)} (h : slicesCollect N c1 c2 c3 c4 c5 m1 l1 = some r) :
    ACalls Tryz.prog 25 [.fn (.func 56) [] [.ptr 2135001 bo1 0]] [(2135001, .cells bo1 [.ptr 125040 bo2 0]), (125040, .cells bo2 [.d (.int .u8 c1), .d (I c2), .d (I c3), .d (.list 3 (List.map LadderResult.enc c4)), .d (.list 4 (List.map LadderPair.enc c5)), .mp 125038 bo3, .sl 1275055 ho1]), (125038, .map bo3 (List.map (fun p => (I p.1, .agg [I p.2.fMatch, .list 1 (List.map I p.2.fGames), .bool p.2.fProtested])) m1)), (1275055, .arr ho1 135 2 false (List.map (fun x => .agg [I x.a0, I x.a1]) l1))] fun ae os => ∃ y : Unit, True ∧ ae = .ret (.d (.list 5 (List.map LadderMatch.enc r))) ∧ os = [(2135001, .cells bo1 [.ptr 125040 bo2 0]), (125040, .cells bo2 [.d (.int .u8 c1), .d (I c2), .d (I c3), .d (.list 3 (List.map LadderResult.enc c4)), .d (.list 4 (List.map LadderPair.enc c5)), .mp 125038 bo3, .sl 1275055 ho1]), (125038, .map bo3 (List.map (fun p => (I p.1, .agg [I p.2.fMatch, .list 1 (List.map I p.2.fGames), .bool p.2.fProtested])) m1)), (1275055, .arr ho1 135 2 false (List.map (fun x => .agg [I x.a0, I x.a1]) l1))] := by
  refine acalls_own (fresh := false) tt_ok dr_ok ⟨[], [], [4], [], [], 2140000, []⟩ Tryz.func25 rfl Tryz.call25 rfl ?_
  unfold slicesCollect at h
  obtain ⟨r2, hx2, h⟩ := obind h;(conv=>whnf);refine CallG.own (slicesAppendSeqC (bo1 := bo1) (bo2 := bo2) (bo3 := bo3) (ho1 := ho1) hN hx2) id [] _ (fun y => [(2135001, .cells bo1 [.ptr 125040 bo2 0]), (125040, .cells bo2 [.d (.int .u8 c1), .d (I c2), .d (I c3), .d (.list 3 (List.map LadderResult.enc c4)), .d (.list 4 (List.map LadderPair.enc c5)), .mp 125038 bo3, .sl 1275055 ho1]), (125038, .map bo3 (List.map (fun p => (I p.1, .agg [I p.2.fMatch, .list 1 (List.map I p.2.fGames), .bool p.2.fProtested])) m1)), (1275055, .arr ho1 135 2 false (List.map (fun x => .agg [I x.a0, I x.a1]) l1))]) (all2_le_refl _) (And.intro rfl (And.intro rfl (And.intro rfl (And.intro rfl trivial)))) rfl (And.intro rfl (And.intro rfl (And.intro rfl (And.intro rfl trivial)))) trivial (fun _ => AV.le_refl _) (fun _ => rfl) ?_;rintro _ _;(conv=>whnf);cases h
  exact ⟨(), trivial, rfl, inO_at (ren := id) (And.intro rfl (And.intro rfl (And.intro rfl (And.intro rfl trivial))))⟩
theorem ladderNextC {N : Nat} (hN : N ≤ 1073741824) {c1 : LadderCup} {r : (List LadderMatch) × Int} (h : ladderNext N c1 = some r) :
    ACalls Tryz.prog 8 [.d (.agg [.int .u8 c1.fForm, I c1.fPlayers, I c1.fGames, .list 3 (List.map LadderResult.enc c1.fResults)])] [] fun e os => e = .ret (.d (.tup [.list 5 (List.map LadderMatch.enc r.1), I r.2])) ∧ os = [] := by
  refine acalls_f (fresh := false) tt_ok dr_ok ⟨[1], [], [], [], [], 0, []⟩ Tryz.func8 rfl Tryz.call8 rfl ?_
  unfold ladderNext at h
  obtain ⟨z2, hx2, h⟩ := obind h;rcases z2 with r2 | ⟨ra2, rb2, rc2, rd2, re2, rf2, rg2, rh2⟩
  ·(conv=>whnf);refine CallG.own (ladderCupDrawC hN hx2) id [] _ (fun y => []) (all2_le_refl _) trivial rfl trivial trivial (fun _ => AV.le_refl _) (fun _ => rfl) ?_;rintro _ _;(conv=>whnf);refine Br.mk (fun hc2 => ?_) (fun hc2 => ?_)
   ·replace h := ite_t hc2 h;(conv=>whnf);cases h;exact rfl
   ·replace h := ite_f hc2 h;cases h
  ·(conv=>whnf);refine CallG.own (ladderCupDrawC hN hx2) id [] _ (fun y => [(125040, .cells y.1 [.d (.int .u8 rb2), .d (I rc2), .d (I rd2), .d (.list 3 (List.map LadderResult.enc re2)), .d (.list 4 (List.map LadderPair.enc rf2)), .mp 125038 y.2.1, .sl 1275055 y.2.2]), (125038, .map y.2.1 (List.map (fun p => (I p.1, .agg [I p.2.fMatch, .list 1 (List.map I p.2.fGames), .bool p.2.fProtested])) rg2)), (1275055, .arr y.2.2 135 2 false (List.map (fun x => .agg [I x.a0, I x.a1]) rh2))]) (all2_le_refl _) trivial rfl trivial trivial (fun _ => AV.le_refl _) (fun _ => rfl) ?_;rintro ⟨b3, b4, hd2⟩ _;(conv=>whnf);refine Br.mk (fun hc4 => ?_) (fun hc4 => ?_)
   ·replace h := ite_t hc4 h;(conv=>whnf);cases h;exact rfl
   ·replace h := ite_f hc4 h;obtain ⟨_, hx5, h⟩ := obind h;(conv=>whnf);refine CallG.own (ladderDrawOpenC (bo1 := b3) (bo2 := b4) (ho1 := hd2) hN hx5) id [] _ (fun y => [(125040, .cells b3 [.d (.int .u8 rb2), .d (I rc2), .d (I rd2), .d (.list 3 (List.map LadderResult.enc re2)), .d (.list 4 (List.map LadderPair.enc rf2)), .mp 125038 b4, .sl 1275055 hd2]), (125038, .map b4 (List.map (fun p => (I p.1, .agg [I p.2.fMatch, .list 1 (List.map I p.2.fGames), .bool p.2.fProtested])) rg2)), (1275055, .arr hd2 135 2 false (List.map (fun x => .agg [I x.a0, I x.a1]) rh2)), (2135001, .cells y [.ptr 125040 b3 0])]) (all2_le_refl _) (And.intro rfl (And.intro rfl (And.intro rfl trivial))) rfl (And.intro rfl (And.intro rfl (And.intro rfl trivial))) trivial (fun _ => AV.le_refl _) (fun _ => rfl) ?_;rintro b6 _;obtain ⟨r4, hx6, h⟩ := obind h;(conv=>whnf)
    refine CallG.own (slicesCollectC (bo1 := b6) (bo2 := b3) (bo3 := b4) (ho1 := hd2) hN hx6) id [] _ (fun y => [(2135001, .cells b6 [.ptr 125040 b3 0]), (125040, .cells b3 [.d (.int .u8 rb2), .d (I rc2), .d (I rd2), .d (.list 3 (List.map LadderResult.enc re2)), .d (.list 4 (List.map LadderPair.enc rf2)), .mp 125038 b4, .sl 1275055 hd2]), (125038, .map b4 (List.map (fun p => (I p.1, .agg [I p.2.fMatch, .list 1 (List.map I p.2.fGames), .bool p.2.fProtested])) rg2)), (1275055, .arr hd2 135 2 false (List.map (fun x => .agg [I x.a0, I x.a1]) rh2))]) (all2_le_refl _) (And.intro rfl (And.intro rfl (And.intro rfl (And.intro rfl trivial)))) rfl (And.intro rfl (And.intro rfl (And.intro rfl (And.intro rfl trivial)))) trivial (fun _ => AV.le_refl _) (fun _ => rfl) ?_;rintro _ _;(conv=>whnf);cases h;exact rfl
theorem ref08OpenC {N : Nat} (hN : N ≤ 1073741824) {l1 : Ref08League} {r : Int} (h : ref08Open N l1 = some r) :
    ACalls Tryz.prog 19 [.d (.agg [I l1.fTeams, .list 5 (List.map Ref08Game.enc l1.fGames)])] [] fun e os => e = .ret (.d (I r)) ∧ os = [] := by
  refine acalls_f (fresh := false) tt_ok dr_ok ⟨[1], [], [], [], [1002, 1005], 0, []⟩ Tryz.func19 rfl Tryz.call19 rfl ?_
  unfold ref08Open at h
  obtain ⟨n9, hx16, h⟩ := obind h;(conv=>whnf);refine SeqG.mk Unit (fun y => [(3, .d (I n9))]) (fun y => []) (fun _ => True) ?_ ?_
  ·(conv=>whnf);refine LoopG.mk (Nat × (Int × Int)) (fun y => [(1, .d (.ref (.agg [I l1.fTeams, .list 5 (List.map Ref08Game.enc l1.fGames)]))), (3, .d (I y.2.1)), (4, .d (I y.2.2))]) (fun y => []) (fun y => loopN (fun rr x => ref08Open_b1 N l1 rr x.1 x.2) y.1 y.2 = some n9) (fun y => y.1) (N, (0, 0)) hx16 (Sub.eq rfl ?_ ?_) ?_
   ·(repeat ((conv=>whnf);refine nr ?_));exact trivial
   ·exact trivial
   ·rintro ⟨n16, ⟨n15, i8⟩⟩ hl2;obtain ⟨n16, rfl, hl2⟩ := loopN_some hl2;replace hl2 : ref08Open_b1 N l1 (loopN (fun rr x => ref08Open_b1 N l1 rr x.1 x.2) n16) n15 i8 = some n9 := hl2;rw [ref08Open_b1] at hl2;(conv=>whnf);refine LnA.mk _ (List.length_map _) ?_;(conv=>whnf);refine Br.mk (fun hc22 => ?_) (fun hc22 => ?_)
    ·replace hl2 := ite_t hc22 hl2;obtain ⟨n17, hx29, hl2⟩ := obind hl2;(conv=>whnf);refine SeqG.mk Unit (fun y => [(1, .d (.ref (.agg [I l1.fTeams, .list 5 (List.map Ref08Game.enc l1.fGames)]))), (3, .d (I n17)), (4, .d (I i8))]) (fun y => []) (fun _ => True) ?_ ?_
     ·obtain ⟨x24, hx31, hx29⟩ := obind hx29;(conv=>whnf);refine Side.mk rfl ⟨_, idx_0 hx31, idx_map _ hx31, ?_⟩;(conv=>whnf);refine Br.mk (fun hc24 => ?_) (fun hc24 => ?_)
      ·replace hx29 := ite_t hc24 hx29;cases hx29;(conv=>whnf);refine ⟨(), trivial, Sub.eq rfl ?_ ?_⟩
       ·(repeat ((conv=>whnf);refine nr ?_));exact trivial
       ·exact trivial
      ·replace hx29 := ite_f hc24 hx29;cases hx29;(conv=>whnf);refine ⟨(), trivial, Sub.eq rfl ?_ ?_⟩
       ·(repeat ((conv=>whnf);refine nr ?_));exact trivial
       ·exact trivial
     ·rintro _ _;(conv=>whnf);refine ⟨(n16, (n17, w64 (i8 + 1))), hl2, Sub.eq rfl ?_ ?_, Nat.lt_succ_self _⟩
      ·(repeat ((conv=>whnf);refine nr ?_));exact trivial
      ·exact trivial
    ·replace hl2 := ite_f hc22 hl2;cases hl2;(conv=>whnf);refine ⟨(), trivial, Sub.eq rfl ?_ ?_⟩
     ·(repeat ((conv=>whnf);refine nr ?_));exact trivial
     ·exact trivial
  ·rintro _ _;(conv=>whnf);cases h;exact rfl
theorem leagueLeagueAskedC {N : Nat} (hN : N ≤ 1073741824) {l1 : LeagueLeague} {team1 : Int} {r : Int} (h : leagueLeagueAsked N l1 team1 = some r) :
    ACalls Tryz.prog 45 [.d (.agg [I l1.fTeams, .list 5 (List.map LeagueGame.enc l1.fGames)]), .d (I team1)] [] fun e os => e = .ret (.d (I r)) ∧ os = [] := by
  refine acalls_f (fresh := false) tt_ok dr_ok ⟨[2], [], [], [], [], 0, []⟩ Tryz.func45 rfl Tryz.call45 rfl ?_
  unfold leagueLeagueAsked at h
  obtain ⟨r4, hx4, h⟩ := obind h;(conv=>whnf);refine CallG.pure _ (leagueCheckLeagueC hN hx4) ?_;(conv=>whnf);refine Br.mk (fun hc2 => ?_) (fun hc2 => ?_)
  ·replace h := ite_t hc2 h;cases h
  ·replace h := ite_f hc2 h;obtain ⟨r8, hx8, h⟩ := obind h;(conv=>whnf);refine CallG.pure _ (leagueLeagueTeamC hN hx8) ?_;(conv=>whnf);refine Br.mk (fun hc4 => ?_) (fun hc4 => ?_)
   ·replace h := ite_t hc4 h;cases h
   ·replace h := ite_f hc4 h;(conv=>whnf);cases h;exact rfl
theorem leagueLeagueSumsC {N : Nat} (hN : N ≤ 1073741824) {l1 : LeagueLeague} {r : (Ar6 Int)} (h : leagueLeagueSums N l1 = some r) :
    ACalls Tryz.prog 83 [.d (.agg [I l1.fTeams, .list 5 (List.map LeagueGame.enc l1.fGames)])] [] fun e os => e = .ret (.d (.agg [I r.a0, I r.a1, I r.a2, I r.a3, I r.a4, I r.a5])) ∧ os = [] := by
  refine acalls_f (fresh := false) tt_ok dr_ok ⟨[1], [], [], [], [5, 1001, 1003], 0, []⟩ Tryz.func83 rfl Tryz.call83 rfl ?_
  unfold leagueLeagueSums at h
  (conv=>whnf);intro b2;obtain ⟨out14, hx34, h⟩ := obind h;(conv=>whnf);refine SeqG.mk Unit (fun y => [(2, .ptr 2 b2 0)]) (fun y => [(2, .cells b2 [.d (I out14.a0), .d (I out14.a1), .d (I out14.a2), .d (I out14.a3), .d (I out14.a4), .d (I out14.a5)])]) (fun _ => True) ?_ ?_
  ·(conv=>whnf);refine LnA.mk _ (List.length_map _) ?_;(conv=>whnf);refine LoopG.mk (Nat × (Int × Int × (Ar6 Int))) (fun y => [(2, .ptr 2 b2 0), (8, .d (.list 5 (List.map LeagueGame.enc l1.fGames))), (9, .d (I y.2.1)), (10, .d (I y.2.2.1))]) (fun y => [(2, .cells b2 [.d (I y.2.2.2.a0), .d (I y.2.2.2.a1), .d (I y.2.2.2.a2), .d (I y.2.2.2.a3), .d (I y.2.2.2.a4), .d (I y.2.2.2.a5)])]) (fun y => loopN (fun rr x => leagueLeagueSums_b1 N l1 rr x.1 x.2.1 x.2.2) y.1 y.2 = some out14) (fun y => y.1) (N, ((l1.fGames.length : Int), 0, (Ar6.mk 0 0 0 0 0 0))) hx34 (Sub.eq rfl ?_ ?_) ?_
   ·(repeat ((conv=>whnf);refine nr ?_));exact trivial
   ·(conv=>whnf);refine no ?_;exact trivial
   ·rintro ⟨n2, ⟨v17, v18, out24⟩⟩ hl2;obtain ⟨n2, rfl, hl2⟩ := loopN_some hl2;replace hl2 : leagueLeagueSums_b1 N l1 (loopN (fun rr x => leagueLeagueSums_b1 N l1 rr x.1 x.2.1 x.2.2) n2) v17 v18 out24 = some out14 := hl2;rw [leagueLeagueSums_b1] at hl2;(conv=>whnf);refine Br.mk (fun hc192 => ?_) (fun hc192 => ?_)
    ·replace hl2 := ite_t hc192 hl2;obtain ⟨out26, hx62, hl2⟩ := obind hl2;(conv=>whnf);refine SeqG.mk Unit (fun y => [(2, .ptr 2 b2 0), (8, .d (.list 5 (List.map LeagueGame.enc l1.fGames))), (9, .d (I v17)), (10, .d (I v18))]) (fun y => [(2, .cells b2 [.d (I out26.a0), .d (I out26.a1), .d (I out26.a2), .d (I out26.a3), .d (I out26.a4), .d (I out26.a5)])]) (fun _ => True) ?_ ?_
     ·obtain ⟨x24, hx64, hx62⟩ := obind hx62;(conv=>whnf);refine Side.mk rfl ⟨_, idx_0 hx64, idx_map _ hx64, ?_⟩;(conv=>whnf);intro b26;(conv=>whnf);refine sr ?_;(conv=>whnf);refine sr ?_;obtain ⟨⟨ra24, rb24⟩, hx66, hx62⟩ := obind hx62;(conv=>whnf);refine CallG.pure _ (leagueGameGivesC hN hx66) ?_;obtain ⟨out27, hx67, hx62⟩ := obind hx62;(conv=>whnf);refine SeqG.mk Unit (fun y => [(2, .ptr 2 b2 0), (4, .ptr 4 b26 0), (6, .d (I rb24)), (8, .d (.list 5 (List.map LeagueGame.enc l1.fGames))), (9, .d (I v17)), (10, .d (I v18))]) (fun y => [(2, .cells b2 [.d (I out27.a0), .d (I out27.a1), .d (I out27.a2), .d (I out27.a3), .d (I out27.a4), .d (I out27.a5)]), (4, .cells b26 [.d (I x24.fA), .d (I x24.fB), .d (I x24.fPinsA), .d (I x24.fPinsB), .d (.bool x24.fOpen)])]) (fun _ => True) ?_ ?_
      ·(conv=>whnf);refine sr ?_;rcases bcases (decide (x24.fA = 0)) with hc217 | hc217
       ·replace hx67 := ite_t hc217 hx67;(conv=>whnf);refine IxG.mk 0 (of_decide_eq_true hc217) (by decide) ?_;(conv=>whnf);refine sr ?_;(conv=>whnf);refine IxG.mk 0 (of_decide_eq_true hc217) (by decide) ?_;(conv=>whnf);refine sr ?_;cases hx67;(conv=>whnf);refine ⟨(), trivial, Sub.eq rfl ?_ ?_⟩
        ·(repeat ((conv=>whnf);refine nr ?_));exact trivial
        ·(conv=>whnf);refine no ?_;(conv=>whnf);refine no ?_;exact trivial
       ·replace hx67 := ite_f hc217 hx67;rcases bcases (decide (x24.fA = 1)) with hc218 | hc218
        ·replace hx67 := ite_t hc218 hx67;(conv=>whnf);refine IxG.mk 1 (of_decide_eq_true hc218) (by decide) ?_;(conv=>whnf);refine sr ?_;(conv=>whnf);refine IxG.mk 1 (of_decide_eq_true hc218) (by decide) ?_;(conv=>whnf);refine sr ?_;cases hx67;(conv=>whnf);refine ⟨(), trivial, Sub.eq rfl ?_ ?_⟩
         ·(repeat ((conv=>whnf);refine nr ?_));exact trivial
         ·(conv=>whnf);refine no ?_;(conv=>whnf);refine no ?_;exact trivial
        ·replace hx67 := ite_f hc218 hx67;rcases bcases (decide (x24.fA = 2)) with hc219 | hc219
         ·replace hx67 := ite_t hc219 hx67;(conv=>whnf);refine IxG.mk 2 (of_decide_eq_true hc219) (by decide) ?_;(conv=>whnf);refine sr ?_;(conv=>whnf);refine IxG.mk 2 (of_decide_eq_true hc219) (by decide) ?_;(conv=>whnf);refine sr ?_;cases hx67;(conv=>whnf);refine ⟨(), trivial, Sub.eq rfl ?_ ?_⟩
          ·(repeat ((conv=>whnf);refine nr ?_));exact trivial
          ·(conv=>whnf);refine no ?_;(conv=>whnf);refine no ?_;exact trivial
         ·replace hx67 := ite_f hc219 hx67;rcases bcases (decide (x24.fA = 3)) with hc220 | hc220
          ·replace hx67 := ite_t hc220 hx67;(conv=>whnf);refine IxG.mk 3 (of_decide_eq_true hc220) (by decide) ?_;(conv=>whnf);refine sr ?_;(conv=>whnf);refine IxG.mk 3 (of_decide_eq_true hc220) (by decide) ?_;(conv=>whnf);refine sr ?_;cases hx67;(conv=>whnf);refine ⟨(), trivial, Sub.eq rfl ?_ ?_⟩
           ·(repeat ((conv=>whnf);refine nr ?_));exact trivial
           ·(conv=>whnf);refine no ?_;(conv=>whnf);refine no ?_;exact trivial
          ·replace hx67 := ite_f hc220 hx67;rcases bcases (decide (x24.fA = 4)) with hc221 | hc221
           ·replace hx67 := ite_t hc221 hx67;(conv=>whnf);refine IxG.mk 4 (of_decide_eq_true hc221) (by decide) ?_;(conv=>whnf);refine sr ?_;(conv=>whnf);refine IxG.mk 4 (of_decide_eq_true hc221) (by decide) ?_;(conv=>whnf);refine sr ?_;cases hx67;(conv=>whnf);refine ⟨(), trivial, Sub.eq rfl ?_ ?_⟩
            ·(repeat ((conv=>whnf);refine nr ?_));exact trivial
            ·(conv=>whnf);refine no ?_;(conv=>whnf);refine no ?_;exact trivial
           ·replace hx67 := ite_f hc221 hx67;rcases bcases (decide (x24.fA = 5)) with hc222 | hc222
            ·replace hx67 := ite_t hc222 hx67;(conv=>whnf);refine IxG.mk 5 (of_decide_eq_true hc222) (by decide) ?_;(conv=>whnf);refine sr ?_;(conv=>whnf);refine IxG.mk 5 (of_decide_eq_true hc222) (by decide) ?_;(conv=>whnf);refine sr ?_;cases hx67;(conv=>whnf);refine ⟨(), trivial, Sub.eq rfl ?_ ?_⟩
             ·(repeat ((conv=>whnf);refine nr ?_));exact trivial
             ·(conv=>whnf);refine no ?_;(conv=>whnf);refine no ?_;exact trivial
            ·replace hx67 := ite_f hc222 hx67;cases hx67
      ·rintro _ _;(conv=>whnf);refine sr ?_;rcases bcases (decide (x24.fB = 0)) with hc223 | hc223
       ·replace hx62 := ite_t hc223 hx62;(conv=>whnf);refine IxG.mk 0 (of_decide_eq_true hc223) (by decide) ?_;(conv=>whnf);refine sr ?_;(conv=>whnf);refine IxG.mk 0 (of_decide_eq_true hc223) (by decide) ?_;(conv=>whnf);refine sr ?_;cases hx62;(conv=>whnf);refine ⟨(), trivial, Sub.eq rfl ?_ ?_⟩
        ·(repeat ((conv=>whnf);refine nr ?_));exact trivial
        ·(conv=>whnf);refine no ?_;exact trivial
       ·replace hx62 := ite_f hc223 hx62;rcases bcases (decide (x24.fB = 1)) with hc224 | hc224
        ·replace hx62 := ite_t hc224 hx62;(conv=>whnf);refine IxG.mk 1 (of_decide_eq_true hc224) (by decide) ?_;(conv=>whnf);refine sr ?_;(conv=>whnf);refine IxG.mk 1 (of_decide_eq_true hc224) (by decide) ?_;(conv=>whnf);refine sr ?_;cases hx62;(conv=>whnf);refine ⟨(), trivial, Sub.eq rfl ?_ ?_⟩
         ·(repeat ((conv=>whnf);refine nr ?_));exact trivial
         ·(conv=>whnf);refine no ?_;exact trivial
        ·replace hx62 := ite_f hc224 hx62;rcases bcases (decide (x24.fB = 2)) with hc225 | hc225
         ·replace hx62 := ite_t hc225 hx62;(conv=>whnf);refine IxG.mk 2 (of_decide_eq_true hc225) (by decide) ?_;(conv=>whnf);refine sr ?_;(conv=>whnf);refine IxG.mk 2 (of_decide_eq_true hc225) (by decide) ?_;(conv=>whnf);refine sr ?_;cases hx62;(conv=>whnf);refine ⟨(), trivial, Sub.eq rfl ?_ ?_⟩
          ·(repeat ((conv=>whnf);refine nr ?_));exact trivial
          ·(conv=>whnf);refine no ?_;exact trivial
         ·replace hx62 := ite_f hc225 hx62;rcases bcases (decide (x24.fB = 3)) with hc226 | hc226
          ·replace hx62 := ite_t hc226 hx62;(conv=>whnf);refine IxG.mk 3 (of_decide_eq_true hc226) (by decide) ?_;(conv=>whnf);refine sr ?_;(conv=>whnf);refine IxG.mk 3 (of_decide_eq_true hc226) (by decide) ?_;(conv=>whnf);refine sr ?_;cases hx62;(conv=>whnf);refine ⟨(), trivial, Sub.eq rfl ?_ ?_⟩
           ·(repeat ((conv=>whnf);refine nr ?_));exact trivial
           ·(conv=>whnf);refine no ?_;exact trivial
          ·replace hx62 := ite_f hc226 hx62;rcases bcases (decide (x24.fB = 4)) with hc227 | hc227
           ·replace hx62 := ite_t hc227 hx62;(conv=>whnf);refine IxG.mk 4 (of_decide_eq_true hc227) (by decide) ?_;(conv=>whnf);refine sr ?_;(conv=>whnf);refine IxG.mk 4 (of_decide_eq_true hc227) (by decide) ?_;(conv=>whnf);refine sr ?_;cases hx62;(conv=>whnf);refine ⟨(), trivial, Sub.eq rfl ?_ ?_⟩
            ·(repeat ((conv=>whnf);refine nr ?_));exact trivial
            ·(conv=>whnf);refine no ?_;exact trivial
           ·replace hx62 := ite_f hc227 hx62;rcases bcases (decide (x24.fB = 5)) with hc228 | hc228
            ·replace hx62 := ite_t hc228 hx62;(conv=>whnf);refine IxG.mk 5 (of_decide_eq_true hc228) (by decide) ?_;(conv=>whnf);refine sr ?_;(conv=>whnf);refine IxG.mk 5 (of_decide_eq_true hc228) (by decide) ?_;(conv=>whnf);refine sr ?_;cases hx62;(conv=>whnf);refine ⟨(), trivial, Sub.eq rfl ?_ ?_⟩
             ·(repeat ((conv=>whnf);refine nr ?_));exact trivial
             ·(conv=>whnf);refine no ?_;exact trivial
            ·replace hx62 := ite_f hc228 hx62;cases hx62
     ·rintro _ _;(conv=>whnf);refine ⟨(n2, (v17, w64 (v18 + 1), out26)), hl2, Sub.eq rfl ?_ ?_, Nat.lt_succ_self _⟩
      ·(repeat ((conv=>whnf);refine nr ?_));exact trivial
      ·(conv=>whnf);refine no ?_;exact trivial
    ·replace hl2 := ite_f hc192 hl2;cases hl2;(conv=>whnf);refine ⟨(), trivial, Sub.eq rfl ?_ ?_⟩
     ·(repeat ((conv=>whnf);refine nr ?_));exact trivial
     ·(conv=>whnf);refine no ?_;exact trivial
  ·rintro _ _;(conv=>whnf);refine sr ?_;(conv=>whnf);refine sr ?_;(conv=>whnf);refine sr ?_;(conv=>whnf);cases h;exact rfl
theorem slicesCloneX0C {N : Nat} (hN : N ≤ 1073741824)  {r : Unit} (h : slicesCloneX0 N = some r) :
    ACalls Tryz.prog 115 [.nils 5] [] fun e os => e = .ret (.nils 5) ∧ os = [] := by
  refine acalls_f (fresh := true) tt_ok dr_ok ⟨[], [], [], [], [], 0, []⟩ Tryz.func115 rfl Tryz.call115 rfl ?_
  unfold slicesCloneX0 at h
  (conv=>whnf)
  all_goals exact rfl
theorem slicesCloneX1C {N : Nat} (hN : N ≤ 1073741824) {s1 : List LeagueGame} {r : (List LeagueGame)} (h : slicesCloneX1 N s1 = some r) :
    ACalls Tryz.prog 115 [.nn 5 (List.map LeagueGame.enc s1)] [] fun e os => ∃ hd, e = .ret (.sl 0 hd) ∧ os = [(0, .arr hd 80 5 false (List.map LeagueGame.enc r))] := by
  refine acalls_fr tt_ok dr_ok ⟨[], [], [], [], [], 0, []⟩ Tryz.func115 rfl Tryz.call115 rfl ?_
  unfold slicesCloneX1 at h
  (conv=>whnf);intro hd3;obtain ⟨l2, hx2, h⟩ := obind h;(conv=>whnf);refine sr ?_;(conv=>whnf);refine Side.mk ⟨rfl, rfl, rfl⟩ (Need.mk (app_need hN hx2 (by decide)) (Eqv.mk (List.map LeagueGame.enc l2) (app_map _ hx2) ?_));(conv=>whnf);intro hd4;(conv=>whnf);cases h;exact ⟨_, _, rfl, rfl⟩
theorem slicesCloneXC {N : Nat} (hN : N ≤ 1073741824) {l : List LeagueGame} {r : (List LeagueGame)} (h : slicesCloneX N l = some r) :
    ACalls Tryz.prog 115 [.d (.list 5 (List.map LeagueGame.enc l))] [] fun e os => ∃ hd, e = .ret (.sl 0 hd) ∧ os = [(0, .arr hd 80 5 false (List.map LeagueGame.enc r))] := by
  unfold slicesCloneX at h
  refine ACalls.nils_or (fun e => ?_) (slicesCloneX1C hN h)
  have e2 := List.map_eq_nil_iff.1 e
  subst e2
  have e3 : r = [] := by simpa [slicesCloneX1, app] using h.symm
  subst e3
  exact ACalls.nil_own (slicesCloneX0C hN (r := ()) rfl)
theorem leagueLeagueOpen1C {N : Nat} (hN : N ≤ 1073741824) {g1 : LeagueGame} {r : Bool} (h : leagueLeagueOpen1 N g1 = some r) :
    ACalls Tryz.prog 116 [.d (.agg [I g1.fA, I g1.fB, I g1.fPinsA, I g1.fPinsB, .bool g1.fOpen])] [] fun e os => e = .ret (.d (.bool r)) ∧ os = [] := by
  refine acalls_f (fresh := false) tt_ok dr_ok ⟨[1], [], [], [], [], 0, []⟩ Tryz.func116 rfl Tryz.call116 rfl ?_
  unfold leagueLeagueOpen1 at h
  (conv=>whnf);cases h;exact rfl
theorem slicesIndexFuncXXXXXXXXC {N : Nat} (hN : N ≤ 1073741824) {l1 : List LeagueGame} {ho1 : Value} {r : Int} (h : slicesIndexFuncXXXXXXXX N l1 = some r) :
    ACalls Tryz.prog 140 [.sl 5 ho1, .d (.fn (.func 116) [] [])] [(5, .arr ho1 80 5 false (List.map LeagueGame.enc l1))] fun ae os => ∃ y : Unit, True ∧ ae = .ret (.d (I r)) ∧ os = [(5, .arr ho1 80 5 false (List.map LeagueGame.enc l1))] := by
  refine acalls_own (fresh := false) tt_ok dr_ok ⟨[], [], [], [], [1001], 10000, []⟩ Tryz.func140 rfl Tryz.call140 rfl ?_
  unfold slicesIndexFuncXXXXXXXX at h
  (conv=>whnf);refine SeqG.mk Unit (fun y => []) (fun y => [(5, .arr ho1 80 5 false (List.map LeagueGame.enc l1))]) (fun y => slicesIndexFuncXXXXXXXX_k1 N = some r) ?_ ?_
  ·(conv=>whnf);refine Side.mk rfl (LnA.mk _ (List.length_map _) ?_);(conv=>whnf);refine LoopG.mk (Nat × (Int × Int)) (fun y => [(0, .sl 5 ho1), (1, .d (.fn (.func 116) [] [])), (7, .d (I y.2.1)), (8, .d (I y.2.2))]) (fun y => [(5, .arr ho1 80 5 false (List.map LeagueGame.enc l1))]) (fun y => loopN (fun rr x => slicesIndexFuncXXXXXXXX_b2 N l1 rr x.1 x.2) y.1 y.2 = some r) (fun y => y.1) (N, ((l1.length : Int), 0)) h (Sub.eq rfl ?_ ?_) ?_
   ·(repeat ((conv=>whnf);refine nr ?_));exact trivial
   ·(conv=>whnf);refine no ?_;exact trivial
   ·rintro ⟨n2, ⟨v17, v18⟩⟩ hl2;obtain ⟨n2, rfl, hl2⟩ := loopN_some hl2;replace hl2 : slicesIndexFuncXXXXXXXX_b2 N l1 (loopN (fun rr x => slicesIndexFuncXXXXXXXX_b2 N l1 rr x.1 x.2) n2) v17 v18 = some r := hl2;rw [slicesIndexFuncXXXXXXXX_b2] at hl2;(conv=>whnf);refine Br.mk (fun hc22 => ?_) (fun hc22 => ?_)
    ·replace hl2 := ite_t hc22 hl2;obtain ⟨x24, hx47, hl2⟩ := obind hl2;(conv=>whnf);refine Side.mk ⟨rfl, rfl⟩ (Need.mk (idx_need _ hx47) ?_);(conv=>whnf);refine Side.mk ⟨rfl, rfl⟩ ⟨_, Int.natCast_nonneg _, idx_el _ hx47, ?_⟩;obtain ⟨r24, hx48, hl2⟩ := obind hl2;(conv=>whnf);refine CallG.pure _ (leagueLeagueOpen1C hN hx48) ?_;(conv=>whnf);refine Br.mk (fun hc24 => ?_) (fun hc24 => ?_)
     ·replace hl2 := ite_t hc24 hl2;(conv=>whnf);cases hl2;exact ⟨(), trivial, rfl, inO_at (ren := id) (And.intro rfl trivial)⟩
     ·replace hl2 := ite_f hc24 hl2;(conv=>whnf);refine ⟨(n2, (v17, w64 (v18 + 1))), hl2, Sub.eq rfl ?_ ?_, Nat.lt_succ_self _⟩
      ·(repeat ((conv=>whnf);refine nr ?_));exact trivial
      ·(conv=>whnf);refine no ?_;exact trivial
    ·replace hl2 := ite_f hc22 hl2;(conv=>whnf);refine ⟨(), hl2, Sub.eq rfl ?_ ?_⟩
     ·(repeat ((conv=>whnf);refine nr ?_));exact trivial
     ·(conv=>whnf);refine no ?_;exact trivial
  ·clear h;rintro _ h;unfold slicesIndexFuncXXXXXXXX_k1 at h;(conv=>whnf);cases h;exact ⟨(), trivial, rfl, inO_at (ren := id) (And.intro rfl trivial)⟩
theorem slicesDeleteFuncC {N : Nat} (hN : N ≤ 1073741824) {l1 : List LeagueGame} {ho1 : Value} {r : (List LeagueGame) × (List LeagueGame)} (h : slicesDeleteFunc N l1 = some r) :
    ACalls Tryz.prog 114 [.sl 5 ho1, .d (.fn (.func 116) [] [])] [(5, .arr ho1 80 5 false (List.map LeagueGame.enc l1))] fun ae os => ∃ y : Unit, True ∧ ae = .ret (.d (.list 5 (List.map LeagueGame.enc r.1))) ∧ os = [(5, .arr ho1 80 5 true (List.map LeagueGame.enc r.2))] := by
  refine acalls_own (fresh := false) tt_ok dr_ok ⟨[], [], [10], [], [1004, 1007], 10000, [38]⟩ Tryz.func114 rfl Tryz.call114 rfl ?_
  unfold slicesDeleteFunc at h
  obtain ⟨r2, hx2, h⟩ := obind h;(conv=>whnf);refine CallG.own (slicesIndexFuncXXXXXXXXC (ho1 := ho1) hN hx2) id [] _ (fun y => [(5, .arr ho1 80 5 false (List.map LeagueGame.enc l1))]) (all2_le_refl _) (And.intro rfl trivial) rfl (And.intro rfl trivial) trivial (fun _ => AV.le_refl _) (fun _ => rfl) ?_;rintro _ _;(conv=>whnf);refine Br.mk (fun hc2 => ?_) (fun hc2 => ?_)
  ·replace h := ite_t hc2 h;(conv=>whnf);refine sr ?_;(conv=>whnf);cases h;exact ⟨(), trivial, rfl, inO_at (ren := id) (And.intro rfl trivial)⟩
  ·replace h := ite_f hc2 h;obtain ⟨⟨i8, l9⟩, hx42, h⟩ := obind h;(conv=>whnf);refine SeqG.mk Unit (fun y => [(0, .sl 5 ho1), (5, .d (I i8))]) (fun y => [(5, .arr ho1 80 5 false (List.map LeagueGame.enc l9))]) (fun _ => True) ?_ ?_
   ·(conv=>whnf);refine LoopG.mk (Nat × (Int × Int × (List LeagueGame))) (fun y => [(0, .sl 5 ho1), (1, .d (.fn (.func 116) [] [])), (5, .d (I y.2.1)), (6, .d (I y.2.2.1))]) (fun y => [(5, .arr ho1 80 5 false (List.map LeagueGame.enc y.2.2.2))]) (fun y => loopN (fun rr x => slicesDeleteFunc_b1 N rr x.1 x.2.1 x.2.2) y.1 y.2 = some (i8, l9)) (fun y => y.1) (N, (r2, w64 (r2 + 1), l1)) hx42 (Sub.eq rfl ?_ ?_) ?_
    ·(repeat ((conv=>whnf);refine nr ?_));exact trivial
    ·(conv=>whnf);refine no ?_;exact trivial
    ·rintro ⟨n2, ⟨i14, j10, l15⟩⟩ hl2;obtain ⟨n2, rfl, hl2⟩ := loopN_some hl2;replace hl2 : slicesDeleteFunc_b1 N (loopN (fun rr x => slicesDeleteFunc_b1 N rr x.1 x.2.1 x.2.2) n2) i14 j10 l15 = some (i8, l9) := hl2;rw [slicesDeleteFunc_b1] at hl2;(conv=>whnf);refine Side.mk rfl (LnA.mk _ (List.length_map _) ?_);(conv=>whnf);refine Br.mk (fun hc24 => ?_) (fun hc24 => ?_)
     ·replace hl2 := ite_t hc24 hl2;obtain ⟨⟨i15, l16⟩, hx75, hl2⟩ := obind hl2;(conv=>whnf);refine SeqG.mk Unit (fun y => [(0, .sl 5 ho1), (1, .d (.fn (.func 116) [] [])), (5, .d (I i15)), (6, .d (I j10))]) (fun y => [(5, .arr ho1 80 5 false (List.map LeagueGame.enc l16))]) (fun _ => True) ?_ ?_
      ·obtain ⟨x46, hx77, hx75⟩ := obind hx75;(conv=>whnf);refine Side.mk ⟨rfl, rfl⟩ (Need.mk (idx_need _ hx77) ?_);(conv=>whnf);refine Side.mk ⟨rfl, rfl⟩ ⟨_, Int.natCast_nonneg _, idx_el _ hx77, ?_⟩;(conv=>whnf);intro b24;(conv=>whnf);refine sr ?_;(conv=>whnf);refine sr ?_;obtain ⟨r26, hx79, hx75⟩ := obind hx75;(conv=>whnf);refine CallG.pure _ (leagueLeagueOpen1C hN hx79) ?_;(conv=>whnf);refine Br.mk (fun hc26 => ?_) (fun hc26 => ?_)
       ·replace hx75 := ite_t hc26 hx75;(conv=>whnf);refine sr ?_;obtain ⟨x48, hx81, hx75⟩ := obind hx75;(conv=>whnf);refine Side.mk ⟨rfl, rfl⟩ (Need.mk (idx_need _ hx81) ?_);(conv=>whnf);refine Side.mk ⟨rfl, rfl⟩ ⟨_, Int.natCast_nonneg _, idx_el _ hx81, ?_⟩;(conv=>whnf);refine Eqv.mk (List.map LeagueGame.enc (List.set l15 (Int.toNat i14) x46)) (set_map _ _ _ _ rfl) ?_;cases hx75;(conv=>whnf);refine ⟨(), trivial, Sub.eq rfl ?_ ?_⟩
        ·(repeat ((conv=>whnf);refine nr ?_));exact trivial
        ·(conv=>whnf);refine no ?_;exact trivial
       ·replace hx75 := ite_f hc26 hx75;cases hx75;(conv=>whnf);refine ⟨(), trivial, Sub.eq rfl ?_ ?_⟩
        ·(repeat ((conv=>whnf);refine nr ?_));exact trivial
        ·(conv=>whnf);refine no ?_;exact trivial
      ·rintro _ _;(conv=>whnf);refine ⟨(n2, (i15, w64 (j10 + 1), l16)), hl2, Sub.eq rfl ?_ ?_, Nat.lt_succ_self _⟩
       ·(repeat ((conv=>whnf);refine nr ?_));exact trivial
       ·(conv=>whnf);refine no ?_;exact trivial
     ·replace hl2 := ite_f hc24 hl2;cases hl2;(conv=>whnf);refine ⟨(), trivial, Sub.eq rfl ?_ ?_⟩
      ·(repeat ((conv=>whnf);refine nr ?_));exact trivial
      ·(conv=>whnf);refine no ?_;exact trivial
   ·rintro _ _;obtain ⟨l18, hx84, h⟩ := obind h;(conv=>whnf);refine Side.mk rfl (Need.mk (slc_needL _ hx84) ?_);obtain ⟨_, hx85, h⟩ := obind h;(conv=>whnf);refine Side.mk ⟨rfl, rfl⟩ (Need.mk (zro_need hx85) (Eqv.mk (List.map LeagueGame.enc (List.replicate l9.length (LeagueGame.mk 0 0 0 0 false))) (clr_map rfl) ?_));obtain ⟨l20, hx87, h⟩ := obind h;(conv=>whnf);refine sr ?_;(conv=>whnf);refine Need.mk (slc_need _ hx87) (Eqv.mk (List.map LeagueGame.enc l20) (slc_map _ hx87) ?_);(conv=>whnf);cases h;exact ⟨(), trivial, rfl, inO_at (ren := id) (And.intro rfl trivial)⟩
theorem leagueLeagueOpenC {N : Nat} (hN : N ≤ 1073741824) {l1 : LeagueLeague} {r : (List LeagueGame)} (h : leagueLeagueOpen N l1 = some r) :
    ACalls Tryz.prog 84 [.d (.agg [I l1.fTeams, .list 5 (List.map LeagueGame.enc l1.fGames)])] [] fun e os => e = .ret (.d (.list 5 (List.map LeagueGame.enc r))) ∧ os = [] := by
  refine acalls_f (fresh := false) tt_ok dr_ok ⟨[1], [], [6], [], [], 0, []⟩ Tryz.func84 rfl Tryz.call84 rfl ?_
  unfold leagueLeagueOpen at h
  obtain ⟨r2, hx3, h⟩ := obind h;(conv=>whnf);refine CallG.fresh 5 (slicesCloneXC hN hx3) ?_;intro hd2;obtain ⟨⟨ra2, rb2⟩, hx4, h⟩ := obind h;(conv=>whnf);refine CallG.own (slicesDeleteFuncC (ho1 := hd2) hN hx4) id [] _ (fun y => [(5, .arr hd2 80 5 true (List.map LeagueGame.enc rb2))]) (all2_le_refl _) (And.intro rfl trivial) rfl (And.intro rfl trivial) trivial (fun _ => AV.le_refl _) (fun _ => rfl) ?_;rintro _ _;(conv=>whnf);cases h;exact rfl
theorem leagueLeagueRaceC {N : Nat} (hN : N ≤ 1073741824) {l1 : LeagueLeague} {team1 : Int} {r : Int × Int × Int × Int × Int × Int × Int × Int × (List LeagueGame)} (h : leagueLeagueRace N l1 team1 = some r) :
    ACalls Tryz.prog 46 [.d (.agg [I l1.fTeams, .list 5 (List.map LeagueGame.enc l1.fGames)]), .d (I team1)] [] fun ae os => ∃ y : Nat, True ∧ ae = .ret (.ptr 235014 y 0) ∧ os = [(235014, .cells y [.d (I r.1), .d (I r.2.1), .d (I r.2.2.1), .d (I r.2.2.2.1), .d (I r.2.2.2.2.1), .d (I r.2.2.2.2.2.1), .d (I r.2.2.2.2.2.2.1), .d (I r.2.2.2.2.2.2.2.1), .d (.list 5 (List.map LeagueGame.enc r.2.2.2.2.2.2.2.2)), .nils 1])] := by
  refine acalls_own (fresh := false) tt_ok dr_ok ⟨[2], [], [], [], [2, 1003], 235000, []⟩ Tryz.func46 rfl Tryz.call46 rfl ?_
  unfold leagueLeagueRace at h
  obtain ⟨r3, hx3, h⟩ := obind h;obtain ⟨r4, hx4, h⟩ := obind h;(conv=>whnf);refine DrawG.mk (.take 0 (.take 1 (.take 3 (.alt 2 [3, 0] (.alt 4 [0] (.alt 5 [] (.alt 6 [] (.take 7 .done) .nil) .nil) .nil) .nil)))) (by kernel_rfl) ?_;(conv=>whnf);refine Both.mk ?_ trivial;(conv=>whnf);refine CallG.pure _ (leagueLeagueSumsC hN hx3) ?_;(conv=>whnf);refine nl ?_;(conv=>whnf);refine nl ?_;(conv=>whnf);refine Both.mk ?_ trivial;(conv=>whnf);refine CallG.pure _ (leagueLeagueOpenC hN hx4) ?_;(conv=>whnf);refine nl ?_;(conv=>whnf);refine Both.mk ?_ trivial;(conv=>whnf);refine Both.mk ?_ trivial;(conv=>whnf);intro b4;obtain ⟨c1, hx5, h⟩ := obind h;(conv=>whnf)
  refine SeqG.mk Unit (fun y => [(1, .d (I team1)), (5, .ptr 235014 b4 0)]) (fun y => [(235014, .cells b4 [.d (I team1), .d (I c1), .d (I r3.a0), .d (I r3.a1), .d (I r3.a2), .d (I r3.a3), .d (I r3.a4), .d (I r3.a5), .d (.list 5 (List.map LeagueGame.enc r4)), .nils 1])]) (fun _ => True) ?_ ?_
  ·rcases bcases (decide (team1 = 0)) with hc7 | hc7
   ·replace hx5 := ite_t hc7 hx5;(conv=>whnf);refine IxG.mk 0 (of_decide_eq_true hc7) (by decide) ?_;(conv=>whnf);refine sr ?_;(conv=>whnf);refine sr ?_;cases hx5;(conv=>whnf);refine ⟨(), trivial, Sub.eq rfl ?_ ?_⟩
    ·(repeat ((conv=>whnf);refine nr ?_));exact trivial
    ·(conv=>whnf);refine no ?_;exact trivial
   ·replace hx5 := ite_f hc7 hx5;rcases bcases (decide (team1 = 1)) with hc8 | hc8
    ·replace hx5 := ite_t hc8 hx5;(conv=>whnf);refine IxG.mk 1 (of_decide_eq_true hc8) (by decide) ?_;(conv=>whnf);refine sr ?_;(conv=>whnf);refine sr ?_;cases hx5;(conv=>whnf);refine ⟨(), trivial, Sub.eq rfl ?_ ?_⟩
     ·(repeat ((conv=>whnf);refine nr ?_));exact trivial
     ·(conv=>whnf);refine no ?_;exact trivial
    ·replace hx5 := ite_f hc8 hx5;rcases bcases (decide (team1 = 2)) with hc9 | hc9
     ·replace hx5 := ite_t hc9 hx5;(conv=>whnf);refine IxG.mk 2 (of_decide_eq_true hc9) (by decide) ?_;(conv=>whnf);refine sr ?_;(conv=>whnf);refine sr ?_;cases hx5;(conv=>whnf);refine ⟨(), trivial, Sub.eq rfl ?_ ?_⟩
      ·(repeat ((conv=>whnf);refine nr ?_));exact trivial
      ·(conv=>whnf);refine no ?_;exact trivial
     ·replace hx5 := ite_f hc9 hx5;rcases bcases (decide (team1 = 3)) with hc10 | hc10
      ·replace hx5 := ite_t hc10 hx5;(conv=>whnf);refine IxG.mk 3 (of_decide_eq_true hc10) (by decide) ?_;(conv=>whnf);refine sr ?_;(conv=>whnf);refine sr ?_;cases hx5;(conv=>whnf);refine ⟨(), trivial, Sub.eq rfl ?_ ?_⟩
       ·(repeat ((conv=>whnf);refine nr ?_));exact trivial
       ·(conv=>whnf);refine no ?_;exact trivial
      ·replace hx5 := ite_f hc10 hx5;rcases bcases (decide (team1 = 4)) with hc11 | hc11
       ·replace hx5 := ite_t hc11 hx5;(conv=>whnf);refine IxG.mk 4 (of_decide_eq_true hc11) (by decide) ?_;(conv=>whnf);refine sr ?_;(conv=>whnf);refine sr ?_;cases hx5;(conv=>whnf);refine ⟨(), trivial, Sub.eq rfl ?_ ?_⟩
        ·(repeat ((conv=>whnf);refine nr ?_));exact trivial
        ·(conv=>whnf);refine no ?_;exact trivial
       ·replace hx5 := ite_f hc11 hx5;rcases bcases (decide (team1 = 5)) with hc12 | hc12
        ·replace hx5 := ite_t hc12 hx5;(conv=>whnf);refine IxG.mk 5 (of_decide_eq_true hc12) (by decide) ?_;(conv=>whnf);refine sr ?_;(conv=>whnf);refine sr ?_;cases hx5;(conv=>whnf);refine ⟨(), trivial, Sub.eq rfl ?_ ?_⟩
         ·(repeat ((conv=>whnf);refine nr ?_));exact trivial
         ·(conv=>whnf);refine no ?_;exact trivial
        ·replace hx5 := ite_f hc12 hx5;cases hx5
  ·rintro _ _;obtain ⟨_, hx18, h⟩ := obind h;(conv=>whnf);refine SeqG.mk Unit (fun y => [(5, .ptr 235014 b4 0)]) (fun y => [(235014, .cells b4 [.d (I team1), .d (I c1), .d (I r3.a0), .d (I r3.a1), .d (I r3.a2), .d (I r3.a3), .d (I r3.a4), .d (I r3.a5), .d (.list 5 (List.map LeagueGame.enc r4)), .nils 1])]) (fun _ => True) ?_ ?_
   ·(conv=>whnf);refine sr ?_;(conv=>whnf);refine LnA.mk _ (List.length_map _) ?_;(conv=>whnf);refine LoopG.mk (Nat × Int) (fun y => [(1, .d (I team1)), (5, .ptr 235014 b4 0), (27, .d (.list 5 (List.map LeagueGame.enc r4))), (28, .d (I y.2)), (29, .i .i64 0)]) (fun y => [(235014, .cells b4 [.d (I team1), .d (I c1), .d (I r3.a0), .d (I r3.a1), .d (I r3.a2), .d (I r3.a3), .d (I r3.a4), .d (I r3.a5), .d (.list 5 (List.map LeagueGame.enc r4)), .nils 1])]) (fun y => loopN (fun rr x => leagueLeagueRace_b1 N r4 rr x) y.1 y.2 = some ()) (fun y => y.1) (N, (r4.length : Int)) hx18 (Sub.eq rfl ?_ ?_) ?_
    ·(repeat ((conv=>whnf);refine nr ?_));exact trivial
    ·(conv=>whnf);refine no ?_;exact trivial
    ·rintro ⟨n2, v10⟩ hl2;obtain ⟨n2, rfl, hl2⟩ := loopN_some hl2;replace hl2 : leagueLeagueRace_b1 N r4 (loopN (fun rr x => leagueLeagueRace_b1 N r4 rr x) n2) v10 = some () := hl2;rw [leagueLeagueRace_b1] at hl2;(conv=>whnf);refine Br.mk (fun hc24 => ?_) (fun hc24 => ?_)
     ·replace hl2 := ite_t hc24 hl2;obtain ⟨x24, hx30, hl2⟩ := obind hl2;(conv=>whnf);refine Side.mk rfl ⟨_, idx_0 hx30, idx_map _ hx30, ?_⟩;(conv=>whnf);intro b28;(conv=>whnf);refine sr ?_;cases hl2
     ·replace hl2 := ite_f hc24 hl2;(conv=>whnf);refine ⟨(), trivial, Sub.eq rfl ?_ ?_⟩
      ·(repeat ((conv=>whnf);refine nr ?_));exact trivial
      ·(conv=>whnf);refine no ?_;exact trivial
   ·rintro _ _;(conv=>whnf);cases h;exact ⟨b4, trivial, rfl, inO_at (ren := id) (And.intro rfl trivial)⟩
theorem leagueRaceRunsC {N : Nat} (hN : N ≤ 1073741824) {c1 : Int} {c2 : Int} {c3 : Int} {c4 : Int} {c5 : Int} {c6 : Int} {c7 : Int} {c8 : Int} {c9 : List LeagueGame} {bo1 : Nat} {r : Bool × Int × Int × Int × Int × Int × Int × Int × Int × (List LeagueGame) × (List Int)} (h : leagueRaceRuns N c1 c2 c3 c4 c5 c6 c7 c8 c9 = some r) :
    ACalls Tryz.prog 47 [.ptr 235014 bo1 0] [(235014, .cells bo1 [.d (I c1), .d (I c2), .d (I c3), .d (I c4), .d (I c5), .d (I c6), .d (I c7), .d (I c8), .d (.list 5 (List.map LeagueGame.enc c9)), .nils 1])] fun ae os => ∃ y : Value, True ∧ ae = .ret (.d (.bool r.1)) ∧ os = [(235014, .cells bo1 [.d (I r.2.1), .d (I r.2.2.1), .d (I r.2.2.2.1), .d (I r.2.2.2.2.1), .d (I r.2.2.2.2.2.1), .d (I r.2.2.2.2.2.2.1), .d (I r.2.2.2.2.2.2.2.1), .d (I r.2.2.2.2.2.2.2.2.1), .d (.list 5 (List.map LeagueGame.enc r.2.2.2.2.2.2.2.2.2.1)), .sl 1240033 y]), (1240033, .arr y 3 1 false (List.map I r.2.2.2.2.2.2.2.2.2.2))] := by
  refine acalls_own (fresh := false) tt_ok dr_ok ⟨[], [], [], [], [22, 1010, 1021], 1240000, []⟩ Tryz.func47 rfl Tryz.call47 rfl ?_
  unfold leagueRaceRuns at h
  (conv=>whnf);intro b2;(conv=>whnf);refine sr ?_;(conv=>whnf);refine LoopG.unr 7 ?_;(conv=>whnf);refine IxG.mk 0 rfl (by decide) ?_;(conv=>whnf);refine IxG.mk 0 rfl (by decide) ?_;(conv=>whnf);refine sr ?_;(conv=>whnf);refine sr ?_;(conv=>whnf);refine Br.mk (fun hc14 => ?_) (fun hc14 => ?_)
  ·replace h := ite_t hc14 h;cases h
  ·replace h := ite_f hc14 h;(conv=>whnf);refine IxG.mk 1 rfl (by decide) ?_;(conv=>whnf);refine IxG.mk 1 rfl (by decide) ?_;(conv=>whnf);refine sr ?_;(conv=>whnf);refine sr ?_;(conv=>whnf);refine Br.mk (fun hc16 => ?_) (fun hc16 => ?_)
   ·replace h := ite_t hc16 h;cases h
   ·replace h := ite_f hc16 h;(conv=>whnf);refine IxG.mk 2 rfl (by decide) ?_;(conv=>whnf);refine IxG.mk 2 rfl (by decide) ?_;(conv=>whnf);refine sr ?_;(conv=>whnf);refine sr ?_;(conv=>whnf);refine Br.mk (fun hc18 => ?_) (fun hc18 => ?_)
    ·replace h := ite_t hc18 h;cases h
    ·replace h := ite_f hc18 h;(conv=>whnf);refine IxG.mk 3 rfl (by decide) ?_;(conv=>whnf);refine IxG.mk 3 rfl (by decide) ?_;(conv=>whnf);refine sr ?_;(conv=>whnf);refine sr ?_;(conv=>whnf);refine Br.mk (fun hc20 => ?_) (fun hc20 => ?_)
     ·replace h := ite_t hc20 h;cases h
     ·replace h := ite_f hc20 h;(conv=>whnf);refine IxG.mk 4 rfl (by decide) ?_;(conv=>whnf);refine IxG.mk 4 rfl (by decide) ?_;(conv=>whnf);refine sr ?_;(conv=>whnf);refine sr ?_;(conv=>whnf);refine Br.mk (fun hc22 => ?_) (fun hc22 => ?_)
      ·replace h := ite_t hc22 h;cases h
      ·replace h := ite_f hc22 h;(conv=>whnf);refine IxG.mk 5 rfl (by decide) ?_;(conv=>whnf);refine IxG.mk 5 rfl (by decide) ?_;(conv=>whnf);refine sr ?_;(conv=>whnf);refine sr ?_;(conv=>whnf);refine Br.mk (fun hc24 => ?_) (fun hc24 => ?_)
       ·replace h := ite_t hc24 h;cases h
       ·replace h := ite_f hc24 h;(conv=>whnf);refine sr ?_;(conv=>whnf);refine LnA.mk _ (List.length_map _) ?_;obtain ⟨l2, hx2, h⟩ := obind h;(conv=>whnf);refine Need.mk (mkl_need hN hx2 (by decide)) (Eqv.mk (List.map I l2) (mkl_map _ hx2 rfl) ?_);(conv=>whnf);intro hd2;(conv=>whnf);refine sr ?_;obtain ⟨_, hx15, h⟩ := obind h;(conv=>whnf);refine SeqG.mk Unit (fun y => [(0, .ptr 235014 bo1 0), (3, .ptr 1240003 b2 0)]) (fun y => [(235014, .cells bo1 [.d (I c1), .d (I c2), .d (I c3), .d (I c4), .d (I c5), .d (I c6), .d (I c7), .d (I c8), .d (.list 5 (List.map LeagueGame.enc c9)), .sl 1240033 hd2]), (1240003, .cells b2 [.d (I c3), .d (I c4), .d (I c5), .d (I c6), .d (I c7), .d (I c8)]), (1240033, .arr hd2 3 1 false (List.map I l2))]) (fun _ => True) ?_ ?_
        ·(conv=>whnf);refine sr ?_;(conv=>whnf);refine LnA.mk _ (List.length_map _) ?_;(conv=>whnf);refine LoopG.mk (Nat × Int) (fun y => [(0, .ptr 235014 bo1 0), (3, .ptr 1240003 b2 0), (39, .d (.list 5 (List.map LeagueGame.enc c9))), (40, .d (I y.2)), (41, .i .i64 0)]) (fun y => [(235014, .cells bo1 [.d (I c1), .d (I c2), .d (I c3), .d (I c4), .d (I c5), .d (I c6), .d (I c7), .d (I c8), .d (.list 5 (List.map LeagueGame.enc c9)), .sl 1240033 hd2]), (1240003, .cells b2 [.d (I c3), .d (I c4), .d (I c5), .d (I c6), .d (I c7), .d (I c8)]), (1240033, .arr hd2 3 1 false (List.map I l2))]) (fun y => loopN (fun rr x => leagueRaceRuns_b1 N c9 rr x) y.1 y.2 = some ()) (fun y => y.1) (N, (c9.length : Int)) hx15 (Sub.eq rfl ?_ ?_) ?_
         ·(repeat ((conv=>whnf);refine nr ?_));exact trivial
         ·(conv=>whnf);refine no ?_;(conv=>whnf);refine no ?_;(conv=>whnf);refine no ?_;exact trivial
         ·rintro ⟨n2, v10⟩ hl2;obtain ⟨n2, rfl, hl2⟩ := loopN_some hl2;replace hl2 : leagueRaceRuns_b1 N c9 (loopN (fun rr x => leagueRaceRuns_b1 N c9 rr x) n2) v10 = some () := hl2;rw [leagueRaceRuns_b1] at hl2;(conv=>whnf);refine Br.mk (fun hc36 => ?_) (fun hc36 => ?_)
          ·replace hl2 := ite_t hc36 hl2;obtain ⟨x24, hx27, hl2⟩ := obind hl2;(conv=>whnf);refine Side.mk rfl ⟨_, idx_0 hx27, idx_map _ hx27, ?_⟩;(conv=>whnf);intro b26;(conv=>whnf);refine sr ?_;cases hl2
          ·replace hl2 := ite_f hc36 hl2;(conv=>whnf);refine ⟨(), trivial, Sub.eq rfl ?_ ?_⟩
           ·(repeat ((conv=>whnf);refine nr ?_));exact trivial
           ·(conv=>whnf);refine no ?_;(conv=>whnf);refine no ?_;(conv=>whnf);refine no ?_;exact trivial
        ·rintro _ _;(conv=>whnf);refine LoopG.unr 7 ?_;obtain ⟨_, hx86, h⟩ := obind h;(conv=>whnf);refine SeqG.mk Unit (fun y => [(0, .ptr 235014 bo1 0), (3, .ptr 1240003 b2 0), (71, .i .i64 0)]) (fun y => [(235014, .cells bo1 [.d (I c1), .d (I c2), .d (I c3), .d (I c4), .d (I c5), .d (I c6), .d (I c7), .d (I c8), .d (.list 5 (List.map LeagueGame.enc c9)), .sl 1240033 hd2]), (1240003, .cells b2 [.d (I c3), .d (I c4), .d (I c5), .d (I c6), .d (I c7), .d (I c8)]), (1240033, .arr hd2 3 1 false (List.map I l2))]) (fun _ => True) ?_ ?_
         ·(conv=>whnf);refine LoopG.mk (Nat × Unit) (fun y => [(0, .ptr 235014 bo1 0), (3, .ptr 1240003 b2 0), (8, .i .i64 0), (71, .i .i64 0)]) (fun y => [(235014, .cells bo1 [.d (I c1), .d (I c2), .d (I c3), .d (I c4), .d (I c5), .d (I c6), .d (I c7), .d (I c8), .d (.list 5 (List.map LeagueGame.enc c9)), .sl 1240033 hd2]), (1240003, .cells b2 [.d (I c3), .d (I c4), .d (I c5), .d (I c6), .d (I c7), .d (I c8)]), (1240033, .arr hd2 3 1 false (List.map I l2))]) (fun y => loopN (fun rr x => leagueRaceRuns_b2 N c1 c2 c3 rr) y.1 y.2 = some ()) (fun y => y.1) (N, ()) hx86 (Sub.eq rfl ?_ ?_) ?_
          ·(repeat ((conv=>whnf);refine nr ?_));exact trivial
          ·(conv=>whnf);refine no ?_;(conv=>whnf);refine no ?_;(conv=>whnf);refine no ?_;exact trivial
          ·rintro ⟨n16, _⟩ hl16;obtain ⟨n16, rfl, hl16⟩ := loopN_some hl16;replace hl16 : leagueRaceRuns_b2 N c1 c2 c3 (loopN (fun rr x => leagueRaceRuns_b2 N c1 c2 c3 rr) n16) = some () := hl16;rw [leagueRaceRuns_b2] at hl16;obtain ⟨v66, hx90, hl16⟩ := obind hl16;(conv=>whnf);refine SeqG.mk Unit (fun y => [(0, .ptr 235014 bo1 0), (3, .ptr 1240003 b2 0), (8, .i .i64 0), (71, .i .i64 0), (89, .d (.bool v66))]) (fun y => [(235014, .cells bo1 [.d (I c1), .d (I c2), .d (I c3), .d (I c4), .d (I c5), .d (I c6), .d (I c7), .d (I c8), .d (.list 5 (List.map LeagueGame.enc c9)), .sl 1240033 hd2]), (1240003, .cells b2 [.d (I c3), .d (I c4), .d (I c5), .d (I c6), .d (I c7), .d (I c8)]), (1240033, .arr hd2 3 1 false (List.map I l2))]) (fun _ => True) ?_ ?_
           ·(conv=>whnf);refine DrawG.mk (.take 0 (.take 1 (.take 2 (.take 3 (.take 4 (.take 5 (.take 6 (.spl 80 (.take 7 (.take 8 (.take 9 (.take 10 (.take 11 (.take 12 (.take 13 (.take 14 (.take 15 .done))))))))))))))))) (by kernel_rfl) ?_;(conv=>whnf);refine sr ?_;(conv=>whnf);refine Br.mk (fun hc203 => ?_) (fun hc203 => ?_)
            ·replace hx90 := ite_t hc203 hx90;(conv=>whnf);refine IxG.mk 0 rfl (by decide) ?_;(conv=>whnf);refine sr ?_;(conv=>whnf);refine sr ?_;cases hx90;(conv=>whnf);refine ⟨(), trivial, Sub.eq rfl ?_ ?_⟩
             ·(repeat ((conv=>whnf);refine nr ?_));exact trivial
             ·(conv=>whnf);refine no ?_;(conv=>whnf);refine no ?_;(conv=>whnf);refine no ?_;exact trivial
            ·replace hx90 := ite_f hc203 hx90;cases hx90;(conv=>whnf);refine ⟨(), trivial, Sub.eq rfl ?_ ?_⟩
             ·(repeat ((conv=>whnf);refine nr ?_));exact trivial
             ·(conv=>whnf);refine no ?_;(conv=>whnf);refine no ?_;(conv=>whnf);refine no ?_;exact trivial
           ·rintro _ _;(conv=>whnf);refine Br.mk (fun hc204 => ?_) (fun hc204 => ?_)
            ·replace hl16 := ite_t hc204 hl16;cases hl16
            ·replace hl16 := ite_f hc204 hl16;(conv=>whnf);refine ⟨(), trivial, Sub.eq rfl ?_ ?_⟩
             ·(repeat ((conv=>whnf);refine nr ?_));exact trivial
             ·(conv=>whnf);refine no ?_;(conv=>whnf);refine no ?_;(conv=>whnf);refine no ?_;exact trivial
         ·rintro _ _;obtain ⟨_, hx95, h⟩ := obind h;(conv=>whnf);refine SeqG.mk Unit (fun y => [(0, .ptr 235014 bo1 0), (3, .ptr 1240003 b2 0), (71, .i .i64 1)]) (fun y => [(235014, .cells bo1 [.d (I c1), .d (I c2), .d (I c3), .d (I c4), .d (I c5), .d (I c6), .d (I c7), .d (I c8), .d (.list 5 (List.map LeagueGame.enc c9)), .sl 1240033 hd2]), (1240003, .cells b2 [.d (I c3), .d (I c4), .d (I c5), .d (I c6), .d (I c7), .d (I c8)]), (1240033, .arr hd2 3 1 false (List.map I l2))]) (fun _ => True) ?_ ?_
          ·(conv=>whnf);refine LoopG.mk (Nat × Unit) (fun y => [(0, .ptr 235014 bo1 0), (3, .ptr 1240003 b2 0), (8, .i .i64 1), (71, .i .i64 1)]) (fun y => [(235014, .cells bo1 [.d (I c1), .d (I c2), .d (I c3), .d (I c4), .d (I c5), .d (I c6), .d (I c7), .d (I c8), .d (.list 5 (List.map LeagueGame.enc c9)), .sl 1240033 hd2]), (1240003, .cells b2 [.d (I c3), .d (I c4), .d (I c5), .d (I c6), .d (I c7), .d (I c8)]), (1240033, .arr hd2 3 1 false (List.map I l2))]) (fun y => loopN (fun rr x => leagueRaceRuns_b3 N c1 c2 c4 rr) y.1 y.2 = some ()) (fun y => y.1) (N, ()) hx95 (Sub.eq rfl ?_ ?_) ?_
           ·(repeat ((conv=>whnf);refine nr ?_));exact trivial
           ·(conv=>whnf);refine no ?_;(conv=>whnf);refine no ?_;(conv=>whnf);refine no ?_;exact trivial
           ·rintro ⟨n18, _⟩ hl18;obtain ⟨n18, rfl, hl18⟩ := loopN_some hl18;replace hl18 : leagueRaceRuns_b3 N c1 c2 c4 (loopN (fun rr x => leagueRaceRuns_b3 N c1 c2 c4 rr) n18) = some () := hl18;rw [leagueRaceRuns_b3] at hl18;obtain ⟨v74, hx99, hl18⟩ := obind hl18;(conv=>whnf);refine SeqG.mk Unit (fun y => [(0, .ptr 235014 bo1 0), (3, .ptr 1240003 b2 0), (8, .i .i64 1), (71, .i .i64 1), (89, .d (.bool v74))]) (fun y => [(235014, .cells bo1 [.d (I c1), .d (I c2), .d (I c3), .d (I c4), .d (I c5), .d (I c6), .d (I c7), .d (I c8), .d (.list 5 (List.map LeagueGame.enc c9)), .sl 1240033 hd2]), (1240003, .cells b2 [.d (I c3), .d (I c4), .d (I c5), .d (I c6), .d (I c7), .d (I c8)]), (1240033, .arr hd2 3 1 false (List.map I l2))]) (fun _ => True) ?_ ?_
            ·(conv=>whnf);refine DrawG.mk (.take 0 (.take 1 (.take 2 (.take 3 (.take 4 (.take 5 (.take 6 (.spl 80 (.take 7 (.take 8 (.take 9 (.take 10 (.take 11 (.take 12 (.take 13 (.take 14 (.take 15 .done))))))))))))))))) (by kernel_rfl) ?_;(conv=>whnf);refine sr ?_;(conv=>whnf);refine Br.mk (fun hc227 => ?_) (fun hc227 => ?_)
             ·replace hx99 := ite_t hc227 hx99;(conv=>whnf);refine IxG.mk 1 rfl (by decide) ?_;(conv=>whnf);refine sr ?_;(conv=>whnf);refine sr ?_;cases hx99;(conv=>whnf);refine ⟨(), trivial, Sub.eq rfl ?_ ?_⟩
              ·(repeat ((conv=>whnf);refine nr ?_));exact trivial
              ·(conv=>whnf);refine no ?_;(conv=>whnf);refine no ?_;(conv=>whnf);refine no ?_;exact trivial
             ·replace hx99 := ite_f hc227 hx99;cases hx99;(conv=>whnf);refine ⟨(), trivial, Sub.eq rfl ?_ ?_⟩
              ·(repeat ((conv=>whnf);refine nr ?_));exact trivial
              ·(conv=>whnf);refine no ?_;(conv=>whnf);refine no ?_;(conv=>whnf);refine no ?_;exact trivial
            ·rintro _ _;(conv=>whnf);refine Br.mk (fun hc228 => ?_) (fun hc228 => ?_)
             ·replace hl18 := ite_t hc228 hl18;cases hl18
             ·replace hl18 := ite_f hc228 hl18;(conv=>whnf);refine ⟨(), trivial, Sub.eq rfl ?_ ?_⟩
              ·(repeat ((conv=>whnf);refine nr ?_));exact trivial
              ·(conv=>whnf);refine no ?_;(conv=>whnf);refine no ?_;(conv=>whnf);refine no ?_;exact trivial
          ·rintro _ _;obtain ⟨_, hx104, h⟩ := obind h;(conv=>whnf);refine SeqG.mk Unit (fun y => [(0, .ptr 235014 bo1 0), (3, .ptr 1240003 b2 0), (71, .i .i64 2)]) (fun y => [(235014, .cells bo1 [.d (I c1), .d (I c2), .d (I c3), .d (I c4), .d (I c5), .d (I c6), .d (I c7), .d (I c8), .d (.list 5 (List.map LeagueGame.enc c9)), .sl 1240033 hd2]), (1240003, .cells b2 [.d (I c3), .d (I c4), .d (I c5), .d (I c6), .d (I c7), .d (I c8)]), (1240033, .arr hd2 3 1 false (List.map I l2))]) (fun _ => True) ?_ ?_
           ·(conv=>whnf);refine LoopG.mk (Nat × Unit) (fun y => [(0, .ptr 235014 bo1 0), (3, .ptr 1240003 b2 0), (8, .i .i64 2), (71, .i .i64 2)]) (fun y => [(235014, .cells bo1 [.d (I c1), .d (I c2), .d (I c3), .d (I c4), .d (I c5), .d (I c6), .d (I c7), .d (I c8), .d (.list 5 (List.map LeagueGame.enc c9)), .sl 1240033 hd2]), (1240003, .cells b2 [.d (I c3), .d (I c4), .d (I c5), .d (I c6), .d (I c7), .d (I c8)]), (1240033, .arr hd2 3 1 false (List.map I l2))]) (fun y => loopN (fun rr x => leagueRaceRuns_b4 N c1 c2 c5 rr) y.1 y.2 = some ()) (fun y => y.1) (N, ()) hx104 (Sub.eq rfl ?_ ?_) ?_
            ·(repeat ((conv=>whnf);refine nr ?_));exact trivial
            ·(conv=>whnf);refine no ?_;(conv=>whnf);refine no ?_;(conv=>whnf);refine no ?_;exact trivial
            ·rintro ⟨n20, _⟩ hl20;obtain ⟨n20, rfl, hl20⟩ := loopN_some hl20;replace hl20 : leagueRaceRuns_b4 N c1 c2 c5 (loopN (fun rr x => leagueRaceRuns_b4 N c1 c2 c5 rr) n20) = some () := hl20;rw [leagueRaceRuns_b4] at hl20;obtain ⟨v82, hx108, hl20⟩ := obind hl20;(conv=>whnf);refine SeqG.mk Unit (fun y => [(0, .ptr 235014 bo1 0), (3, .ptr 1240003 b2 0), (8, .i .i64 2), (71, .i .i64 2), (89, .d (.bool v82))]) (fun y => [(235014, .cells bo1 [.d (I c1), .d (I c2), .d (I c3), .d (I c4), .d (I c5), .d (I c6), .d (I c7), .d (I c8), .d (.list 5 (List.map LeagueGame.enc c9)), .sl 1240033 hd2]), (1240003, .cells b2 [.d (I c3), .d (I c4), .d (I c5), .d (I c6), .d (I c7), .d (I c8)]), (1240033, .arr hd2 3 1 false (List.map I l2))]) (fun _ => True) ?_ ?_
             ·(conv=>whnf);refine DrawG.mk (.take 0 (.take 1 (.take 2 (.take 3 (.take 4 (.take 5 (.take 6 (.spl 80 (.take 7 (.take 8 (.take 9 (.take 10 (.take 11 (.take 12 (.take 13 (.take 14 (.take 15 .done))))))))))))))))) (by kernel_rfl) ?_;(conv=>whnf);refine sr ?_;(conv=>whnf);refine Br.mk (fun hc251 => ?_) (fun hc251 => ?_)
              ·replace hx108 := ite_t hc251 hx108;(conv=>whnf);refine IxG.mk 2 rfl (by decide) ?_;(conv=>whnf);refine sr ?_;(conv=>whnf);refine sr ?_;cases hx108;(conv=>whnf);refine ⟨(), trivial, Sub.eq rfl ?_ ?_⟩
               ·(repeat ((conv=>whnf);refine nr ?_));exact trivial
               ·(conv=>whnf);refine no ?_;(conv=>whnf);refine no ?_;(conv=>whnf);refine no ?_;exact trivial
              ·replace hx108 := ite_f hc251 hx108;cases hx108;(conv=>whnf);refine ⟨(), trivial, Sub.eq rfl ?_ ?_⟩
               ·(repeat ((conv=>whnf);refine nr ?_));exact trivial
               ·(conv=>whnf);refine no ?_;(conv=>whnf);refine no ?_;(conv=>whnf);refine no ?_;exact trivial
             ·rintro _ _;(conv=>whnf);refine Br.mk (fun hc252 => ?_) (fun hc252 => ?_)
              ·replace hl20 := ite_t hc252 hl20;cases hl20
              ·replace hl20 := ite_f hc252 hl20;(conv=>whnf);refine ⟨(), trivial, Sub.eq rfl ?_ ?_⟩
               ·(repeat ((conv=>whnf);refine nr ?_));exact trivial
               ·(conv=>whnf);refine no ?_;(conv=>whnf);refine no ?_;(conv=>whnf);refine no ?_;exact trivial
           ·rintro _ _;obtain ⟨_, hx113, h⟩ := obind h;(conv=>whnf);refine SeqG.mk Unit (fun y => [(0, .ptr 235014 bo1 0), (3, .ptr 1240003 b2 0), (71, .i .i64 3)]) (fun y => [(235014, .cells bo1 [.d (I c1), .d (I c2), .d (I c3), .d (I c4), .d (I c5), .d (I c6), .d (I c7), .d (I c8), .d (.list 5 (List.map LeagueGame.enc c9)), .sl 1240033 hd2]), (1240003, .cells b2 [.d (I c3), .d (I c4), .d (I c5), .d (I c6), .d (I c7), .d (I c8)]), (1240033, .arr hd2 3 1 false (List.map I l2))]) (fun _ => True) ?_ ?_
            ·(conv=>whnf);refine LoopG.mk (Nat × Unit) (fun y => [(0, .ptr 235014 bo1 0), (3, .ptr 1240003 b2 0), (8, .i .i64 3), (71, .i .i64 3)]) (fun y => [(235014, .cells bo1 [.d (I c1), .d (I c2), .d (I c3), .d (I c4), .d (I c5), .d (I c6), .d (I c7), .d (I c8), .d (.list 5 (List.map LeagueGame.enc c9)), .sl 1240033 hd2]), (1240003, .cells b2 [.d (I c3), .d (I c4), .d (I c5), .d (I c6), .d (I c7), .d (I c8)]), (1240033, .arr hd2 3 1 false (List.map I l2))]) (fun y => loopN (fun rr x => leagueRaceRuns_b5 N c1 c2 c6 rr) y.1 y.2 = some ()) (fun y => y.1) (N, ()) hx113 (Sub.eq rfl ?_ ?_) ?_
             ·(repeat ((conv=>whnf);refine nr ?_));exact trivial
             ·(conv=>whnf);refine no ?_;(conv=>whnf);refine no ?_;(conv=>whnf);refine no ?_;exact trivial
             ·rintro ⟨n22, _⟩ hl22;obtain ⟨n22, rfl, hl22⟩ := loopN_some hl22;replace hl22 : leagueRaceRuns_b5 N c1 c2 c6 (loopN (fun rr x => leagueRaceRuns_b5 N c1 c2 c6 rr) n22) = some () := hl22;rw [leagueRaceRuns_b5] at hl22;obtain ⟨v90, hx117, hl22⟩ := obind hl22;(conv=>whnf);refine SeqG.mk Unit (fun y => [(0, .ptr 235014 bo1 0), (3, .ptr 1240003 b2 0), (8, .i .i64 3), (71, .i .i64 3), (89, .d (.bool v90))]) (fun y => [(235014, .cells bo1 [.d (I c1), .d (I c2), .d (I c3), .d (I c4), .d (I c5), .d (I c6), .d (I c7), .d (I c8), .d (.list 5 (List.map LeagueGame.enc c9)), .sl 1240033 hd2]), (1240003, .cells b2 [.d (I c3), .d (I c4), .d (I c5), .d (I c6), .d (I c7), .d (I c8)]), (1240033, .arr hd2 3 1 false (List.map I l2))]) (fun _ => True) ?_ ?_
              ·(conv=>whnf);refine DrawG.mk (.take 0 (.take 1 (.take 2 (.take 3 (.take 4 (.take 5 (.take 6 (.spl 80 (.take 7 (.take 8 (.take 9 (.take 10 (.take 11 (.take 12 (.take 13 (.take 14 (.take 15 .done))))))))))))))))) (by kernel_rfl) ?_;(conv=>whnf);refine sr ?_;(conv=>whnf);refine Br.mk (fun hc275 => ?_) (fun hc275 => ?_)
               ·replace hx117 := ite_t hc275 hx117;(conv=>whnf);refine IxG.mk 3 rfl (by decide) ?_;(conv=>whnf);refine sr ?_;(conv=>whnf);refine sr ?_;cases hx117;(conv=>whnf);refine ⟨(), trivial, Sub.eq rfl ?_ ?_⟩
                ·(repeat ((conv=>whnf);refine nr ?_));exact trivial
                ·(conv=>whnf);refine no ?_;(conv=>whnf);refine no ?_;(conv=>whnf);refine no ?_;exact trivial
               ·replace hx117 := ite_f hc275 hx117;cases hx117;(conv=>whnf);refine ⟨(), trivial, Sub.eq rfl ?_ ?_⟩
                ·(repeat ((conv=>whnf);refine nr ?_));exact trivial
                ·(conv=>whnf);refine no ?_;(conv=>whnf);refine no ?_;(conv=>whnf);refine no ?_;exact trivial
              ·rintro _ _;(conv=>whnf);refine Br.mk (fun hc276 => ?_) (fun hc276 => ?_)
               ·replace hl22 := ite_t hc276 hl22;cases hl22
               ·replace hl22 := ite_f hc276 hl22;(conv=>whnf);refine ⟨(), trivial, Sub.eq rfl ?_ ?_⟩
                ·(repeat ((conv=>whnf);refine nr ?_));exact trivial
                ·(conv=>whnf);refine no ?_;(conv=>whnf);refine no ?_;(conv=>whnf);refine no ?_;exact trivial
            ·rintro _ _;obtain ⟨_, hx122, h⟩ := obind h;(conv=>whnf);refine SeqG.mk Unit (fun y => [(0, .ptr 235014 bo1 0), (3, .ptr 1240003 b2 0), (71, .i .i64 4)]) (fun y => [(235014, .cells bo1 [.d (I c1), .d (I c2), .d (I c3), .d (I c4), .d (I c5), .d (I c6), .d (I c7), .d (I c8), .d (.list 5 (List.map LeagueGame.enc c9)), .sl 1240033 hd2]), (1240003, .cells b2 [.d (I c3), .d (I c4), .d (I c5), .d (I c6), .d (I c7), .d (I c8)]), (1240033, .arr hd2 3 1 false (List.map I l2))]) (fun _ => True) ?_ ?_
             ·(conv=>whnf);refine LoopG.mk (Nat × Unit) (fun y => [(0, .ptr 235014 bo1 0), (3, .ptr 1240003 b2 0), (8, .i .i64 4), (71, .i .i64 4)]) (fun y => [(235014, .cells bo1 [.d (I c1), .d (I c2), .d (I c3), .d (I c4), .d (I c5), .d (I c6), .d (I c7), .d (I c8), .d (.list 5 (List.map LeagueGame.enc c9)), .sl 1240033 hd2]), (1240003, .cells b2 [.d (I c3), .d (I c4), .d (I c5), .d (I c6), .d (I c7), .d (I c8)]), (1240033, .arr hd2 3 1 false (List.map I l2))]) (fun y => loopN (fun rr x => leagueRaceRuns_b6 N c1 c2 c7 rr) y.1 y.2 = some ()) (fun y => y.1) (N, ()) hx122 (Sub.eq rfl ?_ ?_) ?_
              ·(repeat ((conv=>whnf);refine nr ?_));exact trivial
              ·(conv=>whnf);refine no ?_;(conv=>whnf);refine no ?_;(conv=>whnf);refine no ?_;exact trivial
              ·rintro ⟨n24, _⟩ hl24;obtain ⟨n24, rfl, hl24⟩ := loopN_some hl24;replace hl24 : leagueRaceRuns_b6 N c1 c2 c7 (loopN (fun rr x => leagueRaceRuns_b6 N c1 c2 c7 rr) n24) = some () := hl24;rw [leagueRaceRuns_b6] at hl24;obtain ⟨v98, hx126, hl24⟩ := obind hl24;(conv=>whnf);refine SeqG.mk Unit (fun y => [(0, .ptr 235014 bo1 0), (3, .ptr 1240003 b2 0), (8, .i .i64 4), (71, .i .i64 4), (89, .d (.bool v98))]) (fun y => [(235014, .cells bo1 [.d (I c1), .d (I c2), .d (I c3), .d (I c4), .d (I c5), .d (I c6), .d (I c7), .d (I c8), .d (.list 5 (List.map LeagueGame.enc c9)), .sl 1240033 hd2]), (1240003, .cells b2 [.d (I c3), .d (I c4), .d (I c5), .d (I c6), .d (I c7), .d (I c8)]), (1240033, .arr hd2 3 1 false (List.map I l2))]) (fun _ => True) ?_ ?_
               ·(conv=>whnf);refine DrawG.mk (.take 0 (.take 1 (.take 2 (.take 3 (.take 4 (.take 5 (.take 6 (.spl 80 (.take 7 (.take 8 (.take 9 (.take 10 (.take 11 (.take 12 (.take 13 (.take 14 (.take 15 .done))))))))))))))))) (by kernel_rfl) ?_;(conv=>whnf);refine sr ?_;(conv=>whnf);refine Br.mk (fun hc299 => ?_) (fun hc299 => ?_)
                ·replace hx126 := ite_t hc299 hx126;(conv=>whnf);refine IxG.mk 4 rfl (by decide) ?_;(conv=>whnf);refine sr ?_;(conv=>whnf);refine sr ?_;cases hx126;(conv=>whnf);refine ⟨(), trivial, Sub.eq rfl ?_ ?_⟩
                 ·(repeat ((conv=>whnf);refine nr ?_));exact trivial
                 ·(conv=>whnf);refine no ?_;(conv=>whnf);refine no ?_;(conv=>whnf);refine no ?_;exact trivial
                ·replace hx126 := ite_f hc299 hx126;cases hx126;(conv=>whnf);refine ⟨(), trivial, Sub.eq rfl ?_ ?_⟩
                 ·(repeat ((conv=>whnf);refine nr ?_));exact trivial
                 ·(conv=>whnf);refine no ?_;(conv=>whnf);refine no ?_;(conv=>whnf);refine no ?_;exact trivial
               ·rintro _ _;(conv=>whnf);refine Br.mk (fun hc300 => ?_) (fun hc300 => ?_)
                ·replace hl24 := ite_t hc300 hl24;cases hl24
                ·replace hl24 := ite_f hc300 hl24;(conv=>whnf);refine ⟨(), trivial, Sub.eq rfl ?_ ?_⟩
                 ·(repeat ((conv=>whnf);refine nr ?_));exact trivial
                 ·(conv=>whnf);refine no ?_;(conv=>whnf);refine no ?_;(conv=>whnf);refine no ?_;exact trivial
             ·rintro _ _;obtain ⟨_, hx131, h⟩ := obind h;(conv=>whnf);refine SeqG.mk Unit (fun y => [(0, .ptr 235014 bo1 0), (3, .ptr 1240003 b2 0), (71, .i .i64 5)]) (fun y => [(235014, .cells bo1 [.d (I c1), .d (I c2), .d (I c3), .d (I c4), .d (I c5), .d (I c6), .d (I c7), .d (I c8), .d (.list 5 (List.map LeagueGame.enc c9)), .sl 1240033 hd2]), (1240003, .cells b2 [.d (I c3), .d (I c4), .d (I c5), .d (I c6), .d (I c7), .d (I c8)]), (1240033, .arr hd2 3 1 false (List.map I l2))]) (fun _ => True) ?_ ?_
              ·(conv=>whnf);refine LoopG.mk (Nat × Unit) (fun y => [(0, .ptr 235014 bo1 0), (3, .ptr 1240003 b2 0), (8, .i .i64 5), (71, .i .i64 5)]) (fun y => [(235014, .cells bo1 [.d (I c1), .d (I c2), .d (I c3), .d (I c4), .d (I c5), .d (I c6), .d (I c7), .d (I c8), .d (.list 5 (List.map LeagueGame.enc c9)), .sl 1240033 hd2]), (1240003, .cells b2 [.d (I c3), .d (I c4), .d (I c5), .d (I c6), .d (I c7), .d (I c8)]), (1240033, .arr hd2 3 1 false (List.map I l2))]) (fun y => loopN (fun rr x => leagueRaceRuns_b7 N c1 c2 c8 rr) y.1 y.2 = some ()) (fun y => y.1) (N, ()) hx131 (Sub.eq rfl ?_ ?_) ?_
               ·(repeat ((conv=>whnf);refine nr ?_));exact trivial
               ·(conv=>whnf);refine no ?_;(conv=>whnf);refine no ?_;(conv=>whnf);refine no ?_;exact trivial
               ·rintro ⟨n26, _⟩ hl26;obtain ⟨n26, rfl, hl26⟩ := loopN_some hl26;replace hl26 : leagueRaceRuns_b7 N c1 c2 c8 (loopN (fun rr x => leagueRaceRuns_b7 N c1 c2 c8 rr) n26) = some () := hl26;rw [leagueRaceRuns_b7] at hl26;obtain ⟨v106, hx135, hl26⟩ := obind hl26;(conv=>whnf);refine SeqG.mk Unit (fun y => [(0, .ptr 235014 bo1 0), (3, .ptr 1240003 b2 0), (8, .i .i64 5), (71, .i .i64 5), (89, .d (.bool v106))]) (fun y => [(235014, .cells bo1 [.d (I c1), .d (I c2), .d (I c3), .d (I c4), .d (I c5), .d (I c6), .d (I c7), .d (I c8), .d (.list 5 (List.map LeagueGame.enc c9)), .sl 1240033 hd2]), (1240003, .cells b2 [.d (I c3), .d (I c4), .d (I c5), .d (I c6), .d (I c7), .d (I c8)]), (1240033, .arr hd2 3 1 false (List.map I l2))]) (fun _ => True) ?_ ?_
                ·(conv=>whnf);refine DrawG.mk (.take 0 (.take 1 (.take 2 (.take 3 (.take 4 (.take 5 (.take 6 (.spl 80 (.take 7 (.take 8 (.take 9 (.take 10 (.take 11 (.take 12 (.take 13 (.take 14 (.take 15 .done))))))))))))))))) (by kernel_rfl) ?_;(conv=>whnf);refine sr ?_;(conv=>whnf);refine Br.mk (fun hc323 => ?_) (fun hc323 => ?_)
                 ·replace hx135 := ite_t hc323 hx135;(conv=>whnf);refine IxG.mk 5 rfl (by decide) ?_;(conv=>whnf);refine sr ?_;(conv=>whnf);refine sr ?_;cases hx135;(conv=>whnf);refine ⟨(), trivial, Sub.eq rfl ?_ ?_⟩
                  ·(repeat ((conv=>whnf);refine nr ?_));exact trivial
                  ·(conv=>whnf);refine no ?_;(conv=>whnf);refine no ?_;(conv=>whnf);refine no ?_;exact trivial
                 ·replace hx135 := ite_f hc323 hx135;cases hx135;(conv=>whnf);refine ⟨(), trivial, Sub.eq rfl ?_ ?_⟩
                  ·(repeat ((conv=>whnf);refine nr ?_));exact trivial
                  ·(conv=>whnf);refine no ?_;(conv=>whnf);refine no ?_;(conv=>whnf);refine no ?_;exact trivial
                ·rintro _ _;(conv=>whnf);refine Br.mk (fun hc324 => ?_) (fun hc324 => ?_)
                 ·replace hl26 := ite_t hc324 hl26;cases hl26
                 ·replace hl26 := ite_f hc324 hl26;(conv=>whnf);refine ⟨(), trivial, Sub.eq rfl ?_ ?_⟩
                  ·(repeat ((conv=>whnf);refine nr ?_));exact trivial
                  ·(conv=>whnf);refine no ?_;(conv=>whnf);refine no ?_;(conv=>whnf);refine no ?_;exact trivial
              ·rintro _ _;(conv=>whnf);cases h;exact ⟨hd2, trivial, rfl, inO_at (ren := id) (And.intro rfl (And.intro rfl trivial))⟩
theorem leagueCanFirstC {N : Nat} (hN : N ≤ 1073741824) {l1 : LeagueLeague} {team1 : Int} {r : Bool × Int} (h : leagueCanFirst N l1 team1 = some r) :
    ACalls Tryz.prog 20 [.d (.agg [I l1.fTeams, .list 5 (List.map LeagueGame.enc l1.fGames)]), .d (I team1)] [] fun e os => e = .ret (.d (.tup [.bool r.1, I r.2])) ∧ os = [] := by
  refine acalls_f (fresh := false) tt_ok dr_ok ⟨[2], [], [], [], [], 0, []⟩ Tryz.func20 rfl Tryz.call20 rfl ?_
  unfold leagueCanFirst at h
  obtain ⟨r4, hx4, h⟩ := obind h;(conv=>whnf);refine CallG.pure _ (leagueLeagueAskedC hN hx4) ?_;(conv=>whnf);refine Br.mk (fun hc2 => ?_) (fun hc2 => ?_)
  ·replace h := ite_t hc2 h;cases h
  ·replace h := ite_f hc2 h;obtain ⟨⟨ra3, rb3, rc3, rd3, re3, rf3, rg3, rh3, ri3⟩, hx7, h⟩ := obind h;(conv=>whnf);refine CallG.own (leagueLeagueRaceC hN hx7) id [] _ (fun y => [(235014, .cells y [.d (I ra3), .d (I rb3), .d (I rc3), .d (I rd3), .d (I re3), .d (I rf3), .d (I rg3), .d (I rh3), .d (.list 5 (List.map LeagueGame.enc ri3)), .nils 1])]) (all2_le_refl _) trivial rfl trivial trivial (fun _ => AV.le_refl _) (fun _ => rfl) ?_;rintro b2 _;obtain ⟨⟨ra4, rb4, rc4, rd4, re4, rf4, rg4, rh4, ri4, rj2, rk2⟩, hx8, h⟩ := obind h;(conv=>whnf)
   refine CallG.own (leagueRaceRunsC (bo1 := b2) hN hx8) id [] _ (fun y => [(235014, .cells b2 [.d (I rb4), .d (I rc4), .d (I rd4), .d (I re4), .d (I rf4), .d (I rg4), .d (I rh4), .d (I ri4), .d (.list 5 (List.map LeagueGame.enc rj2)), .sl 1240033 y]), (1240033, .arr y 3 1 false (List.map I rk2))]) (all2_le_refl _) (And.intro rfl trivial) rfl (And.intro rfl trivial) trivial (fun _ => AV.le_refl _) (fun _ => rfl) ?_;rintro hd2 _;(conv=>whnf);cases h;exact rfl
end Go.Proofs.YtignpdbcgjllkaaGreat
