/-
  Walks: what the typed functions compute, the program’s functions return.
-/
import Derived.Test.YtbceakhnnnfiaaaWe
import Derived.Test.YtbceakhnnnfiaaaVa
import Derived.Test.YtbceakhnnnfiaaaVb
import Derived.Test.YtbceakhnnnfiaaaVc
namespace Go.Proofs.Ytbceakhnnnfiaaa
open Go Go.Abs Go.Kp
set_option maxRecDepth 100000
set_option maxHeartbeats 8000000
set_option linter.all false
theorem ladderWinnerXC {N : Nat} (hN : N ≤ 1073741824) {c1 : LadderCup} {r : Int × Int} (h : ladderWinnerX N c1 = some r) :
    ACalls Try.prog 41 [.d (.agg [.int .u8 c1.fForm, I c1.fPlayers, I c1.fGames, .list 3 (List.map LadderResult.enc c1.fResults)])] [] fun e os => e = .ret (.d (.tup [I r.1, I r.2])) ∧ os = [] := by
  refine acalls_f (fresh := false) tt_ok dr_ok ⟨[1], [], [], [], [], 0, []⟩ Try.func41 rfl Try.call41 rfl ?_
  unfold ladderWinnerX at h
  obtain ⟨z2, hx2, h⟩ := obind h;rcases z2 with r2 | ⟨ra2, rb2, rc2, rd2, re2, rf2, rg2, rh2⟩
  ·(conv=>whnf);refine CallG.own (ladderCupDrawC hN hx2) id [] _ (fun y => []) (all2_le_refl _) trivial rfl trivial trivial (fun _ => AV.le_refl _) (fun _ => rfl) ?_;rintro _ _;(conv=>whnf);refine Br.mk (fun hc2 => ?_) (fun hc2 => ?_)
   ·replace h := ite_t hc2 h;(conv=>whnf);cases h;exact rfl
   ·replace h := ite_f hc2 h;cases h
  ·(conv=>whnf);refine CallG.own (ladderCupDrawC hN hx2) id [] _ (fun y => [(265040, .cells y.1 [.d (.int .u8 rb2), .d (I rc2), .d (I rd2), .d (.list 3 (List.map LadderResult.enc re2)), .d (.list 4 (List.map LadderPair.enc rf2)), .mp 265038 y.2.1, .sl 1400055 y.2.2]), (265038, .map y.2.1 (List.map (fun p => (I p.1, .agg [I p.2.fMatch, .list 1 (List.map I p.2.fGames), .bool p.2.fProtested])) rg2)), (1400055, .arr y.2.2 70 2 false (List.map (fun x => .agg [I x.a0, I x.a1]) rh2))]) (all2_le_refl _) trivial rfl trivial trivial (fun _ => AV.le_refl _) (fun _ => rfl) ?_;rintro ⟨b3, b4, hd2⟩ _;(conv=>whnf);refine Br.mk (fun hc4 => ?_) (fun hc4 => ?_)
   ·replace h := ite_t hc4 h;(conv=>whnf);cases h;exact rfl
   ·replace h := ite_f hc4 h;obtain ⟨r5, hx5, h⟩ := obind h;(conv=>whnf);refine CallG.own (ladderDrawLastC (bo1 := b3) (bo2 := b4) (ho1 := hd2) hN hx5) id [] _ (fun y => [(265040, .cells b3 [.d (.int .u8 rb2), .d (I rc2), .d (I rd2), .d (.list 3 (List.map LadderResult.enc re2)), .d (.list 4 (List.map LadderPair.enc rf2)), .mp 265038 b4, .sl 1400055 hd2]), (265038, .map b4 (List.map (fun p => (I p.1, .agg [I p.2.fMatch, .list 1 (List.map I p.2.fGames), .bool p.2.fProtested])) rg2)), (1400055, .arr hd2 70 2 false (List.map (fun x => .agg [I x.a0, I x.a1]) rh2))]) (all2_le_refl _) (And.intro rfl (And.intro rfl (And.intro rfl trivial))) rfl (And.intro rfl (And.intro rfl (And.intro rfl trivial))) trivial (fun _ => AV.le_refl _) (fun _ => rfl) ?_;rintro _ _;obtain ⟨r6, hx6, h⟩ := obind h;(conv=>whnf)
    refine CallG.own (ladderDrawWonXXXXXC (bo1 := b3) (bo2 := b4) (ho1 := hd2) hN hx6) id [] _ (fun y => [(265040, .cells b3 [.d (.int .u8 rb2), .d (I rc2), .d (I rd2), .d (.list 3 (List.map LadderResult.enc re2)), .d (.list 4 (List.map LadderPair.enc rf2)), .mp 265038 b4, .sl 1400055 hd2]), (265038, .map b4 (List.map (fun p => (I p.1, .agg [I p.2.fMatch, .list 1 (List.map I p.2.fGames), .bool p.2.fProtested])) rg2)), (1400055, .arr hd2 70 2 false (List.map (fun x => .agg [I x.a0, I x.a1]) rh2))]) (all2_le_refl _) (And.intro rfl (And.intro rfl (And.intro rfl trivial))) rfl (And.intro rfl (And.intro rfl (And.intro rfl trivial))) trivial (fun _ => AV.le_refl _) (fun _ => rfl) ?_;rintro _ _;(conv=>whnf);refine Br.mk (fun hc7 => ?_) (fun hc7 => ?_)
    ·replace h := ite_t hc7 h;(conv=>whnf);cases h;exact rfl
    ·replace h := ite_f hc7 h;obtain ⟨r10, hx10, h⟩ := obind h;(conv=>whnf);refine CallG.own (ladderDrawMayC (bo1 := b3) (bo2 := b4) (ho1 := hd2) hN hx10) id [] _ (fun y => [(265040, .cells b3 [.d (.int .u8 rb2), .d (I rc2), .d (I rd2), .d (.list 3 (List.map LadderResult.enc re2)), .d (.list 4 (List.map LadderPair.enc rf2)), .mp 265038 b4, .sl 1400055 hd2]), (265038, .map b4 (List.map (fun p => (I p.1, .agg [I p.2.fMatch, .list 1 (List.map I p.2.fGames), .bool p.2.fProtested])) rg2)), (1400055, .arr hd2 70 2 false (List.map (fun x => .agg [I x.a0, I x.a1]) rh2))]) (all2_le_refl _) (And.intro rfl (And.intro rfl (And.intro rfl trivial))) rfl (And.intro rfl (And.intro rfl (And.intro rfl trivial))) trivial (fun _ => AV.le_refl _) (fun _ => rfl) ?_;rintro _ _;(conv=>whnf);refine LnA.mk _ (List.length_map _) ?_;(conv=>whnf);refine Br.mk (fun hc8 => ?_) (fun hc8 => ?_)
     ·replace h := ite_t hc8 h;(conv=>whnf);cases h;exact rfl
     ·replace h := ite_f hc8 h;(conv=>whnf);cases h;exact rfl
end Go.Proofs.Ytbceakhnnnfiaaa
