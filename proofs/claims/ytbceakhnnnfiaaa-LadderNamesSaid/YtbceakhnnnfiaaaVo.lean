/-
  Walks: what the typed functions compute, the program’s functions return.
-/
import Derived.Test.YtbceakhnnnfiaaaWe
import Derived.Test.YtbceakhnnnfiaaaVb
namespace Go.Proofs.Ytbceakhnnnfiaaa
open Go Go.Abs Go.Kp
set_option maxRecDepth 100000
set_option maxHeartbeats 8000000
set_option linter.all false

theorem ladderCheckCupC {N : Nat} (hN : N ≤ 1073741824) {c1 : LadderCup} {r : Int} (h : ladderCheckCup N c1 = some r) :
    ACalls Try.prog 37 [.d (.agg [.int .u8 c1.fForm, I c1.fPlayers, I c1.fGames, .list 3 (List.map LadderResult.enc c1.fResults)])] [] fun e os => e = .ret (.d (I r)) ∧ os = [] := by
  refine acalls_f (fresh := false) tt_ok dr_ok ⟨[1], [], [], [], [1], 0, []⟩ Try.func37 rfl Try.call37 rfl ?_
  unfold ladderCheckCup at h
  obtain ⟨e1, hx2, h⟩ := obind h;(conv=>whnf);refine SeqG.mk Unit (fun y => [(4, .d (I e1))]) (fun y => []) (fun _ => True) ?_ ?_
  ·obtain ⟨z2, hx3, hx2⟩ := obind hx2;rcases z2 with r2 | ⟨ra2, rb2, rc2, rd2, re2, rf2, rg2, rh2⟩
   ·(conv=>whnf);refine CallG.own (ladderCupDrawC hN hx3) id [] _ (fun y => []) (all2_le_refl _) trivial rfl trivial trivial (fun _ => AV.le_refl _) (fun _ => rfl) ?_;rintro _ _;cases hx2;(conv=>whnf);refine ⟨(), trivial, Sub.eq rfl ?_ ?_⟩
    ·(repeat ((conv=>whnf);refine nr ?_));exact trivial
    ·exact trivial
   ·(conv=>whnf);refine CallG.own (ladderCupDrawC hN hx3) id [] _ (fun y => [(265040, .cells y.1 [.d (.int .u8 rb2), .d (I rc2), .d (I rd2), .d (.list 3 (List.map LadderResult.enc re2)), .d (.list 4 (List.map LadderPair.enc rf2)), .mp 265038 y.2.1, .sl 1400055 y.2.2]), (265038, .map y.2.1 (List.map (fun p => (I p.1, .agg [I p.2.fMatch, .list 1 (List.map I p.2.fGames), .bool p.2.fProtested])) rg2)), (1400055, .arr y.2.2 70 2 false (List.map (fun x => .agg [I x.a0, I x.a1]) rh2))]) (all2_le_refl _) trivial rfl trivial trivial (fun _ => AV.le_refl _) (fun _ => rfl) ?_;rintro ⟨b3, b4, hd2⟩ _;cases hx2;(conv=>whnf);refine ⟨(), trivial, Sub.eq rfl ?_ ?_⟩
    ·(repeat ((conv=>whnf);refine nr ?_));exact trivial
    ·exact trivial
  ·rintro _ _;(conv=>whnf);cases h;exact rfl
end Go.Proofs.Ytbceakhnnnfiaaa
