/-
  Walks: what the typed functions compute, the program’s functions return.
-/
import Derived.Test.YtbceakhnnnfiaaaWe
import Derived.Test.YtbceakhnnnfiaaaVe
namespace Go.Proofs.Ytbceakhnnnfiaaa
open Go Go.Abs Go.Kp
set_option maxRecDepth 100000
set_option maxHeartbeats 8000000
set_option linter.all false

theorem ref09NextC {N : Nat} (hN : N ≤ 1073741824) {c1 : Ref09Cup} {r : (List Ref09Match)} (h : ref09Next N c1 = some r) :
    ACalls Try.prog 28 [.d (.agg [.int .u8 c1.fForm, I c1.fPlayers, I c1.fGames, .list 3 (List.map Ref09Result.enc c1.fResults)])] [] fun e os => e = .ret (.d (.list 5 (List.map Ref09Match.enc r))) ∧ os = [] := by
  refine acalls_f (fresh := false) tt_ok dr_ok ⟨[1], [], [], [], [7, 1003, 1006, 1009], 0, []⟩ Try.func28 rfl Try.call28 rfl ?_
  unfold ref09Next at h
  obtain ⟨r2, hx2, h⟩ := obind h;(conv=>whnf);refine CallG.pure _ (ref09TreeC hN hx2) ?_;obtain ⟨l14, hx150, h⟩ := obind h;(conv=>whnf);refine SeqG.mk Value (fun y => [(4, .sl 74 y)]) (fun y => [(74, .arr y 41 5 false (List.map Ref09Match.enc l14))]) (fun _ => True) ?_ ?_
  ·(conv=>whnf);refine LoopG.mk (Nat × (Int × (List Ref09Match)) × Value) (fun y => [(1, .d (.ref (.agg [.int .u8 c1.fForm, I c1.fPlayers, I c1.fGames, .list 3 (List.map Ref09Result.enc c1.fResults)]))), (3, .d (.list 4 (List.map Ref09Pair.enc r2))), (4, .sl 74 y.2.2), (5, .d (I y.2.1.1))]) (fun y => [(74, .arr y.2.2 41 5 false (List.map Ref09Match.enc y.2.1.2))]) (fun y => loopN (fun rr x => ref09Next_b1 N c1 r2 rr x.1 x.2) y.1 y.2.1 = some l14) (fun y => y.1) (N, (0, []), (.slice none 0 0)) hx150 (Sub.eq rfl ?_ ?_) ?_
   ·(repeat ((conv=>whnf);refine nr ?_));exact trivial
   ·(conv=>whnf);refine Need.mk (OLe.nil _ _ _ _) ?_;exact trivial
   ·rintro ⟨n10, ⟨n9, l24⟩, hd34⟩ hl2;obtain ⟨n10, rfl, hl2⟩ := loopN_some hl2;replace hl2 : ref09Next_b1 N c1 r2 (loopN (fun rr x => ref09Next_b1 N c1 r2 rr x.1 x.2) n10) n9 l24 = some l14 := hl2;rw [ref09Next_b1] at hl2;(conv=>whnf);refine LnA.mk _ (List.length_map _) ?_;(conv=>whnf);refine Br.mk (fun hc132 => ?_) (fun hc132 => ?_)
    ·replace hl2 := ite_t hc132 hl2;obtain ⟨l26, hx273, hl2⟩ := obind hl2;(conv=>whnf);refine SeqG.mk Value (fun y => [(1, .d (.ref (.agg [.int .u8 c1.fForm, I c1.fPlayers, I c1.fGames, .list 3 (List.map Ref09Result.enc c1.fResults)]))), (3, .d (.list 4 (List.map Ref09Pair.enc r2))), (4, .sl 74 y), (5, .d (I n9))]) (fun y => [(74, .arr y 41 5 false (List.map Ref09Match.enc l26))]) (fun _ => True) ?_ ?_
     ·obtain ⟨x46, hx277, hx273⟩ := obind hx273;obtain ⟨r181, hx278, hx273⟩ := obind hx273;obtain ⟨r182, hx279, hx273⟩ := obind hx273;(conv=>whnf);refine DrawG.mk (.take 0 (.take 1 (.take 2 (.take 3 (.take 4 (.take 5 (.take 7 (.take 8 (.take 9 (.take 10 (.take 11 (.take 12 (.alt 6 [12, 11, 10, 9, 8, 7, 4, 3, 2, 1] (.alt 13 [11, 10, 9, 8, 4, 3, 2, 1] (.take 14 (.take 15 .done)) .nil) .nil))))))))))))) (by kernel_rfl) ?_;(conv=>whnf);refine Side.mk rfl ⟨_, idx_0 hx277, idx_map _ hx277, ?_⟩;(conv=>whnf);refine Side.mk rfl ⟨_, idx_0 hx277, idx_map _ hx277, ?_⟩;(conv=>whnf);refine Both.mk ?_ trivial;(conv=>whnf);refine CallG.pure _ (ref09KnownC hN hx278) ?_;(conv=>whnf);refine nl ?_;(conv=>whnf);refine nl ?_;(conv=>whnf);refine Side.mk rfl ⟨_, idx_0 hx277, idx_map _ hx277, ?_⟩;(conv=>whnf);refine nl ?_;(conv=>whnf);refine nl ?_;(conv=>whnf);refine nl ?_;(conv=>whnf);refine nl ?_;(conv=>whnf)
      refine nl ?_;(conv=>whnf);refine Side.mk rfl ⟨_, idx_0 hx277, idx_map _ hx277, ?_⟩;(conv=>whnf);refine nl ?_;(conv=>whnf);refine nl ?_;(conv=>whnf);refine nl ?_;(conv=>whnf);refine Both.mk ?_ trivial;(conv=>whnf);refine CallG.pure _ (ref09KnownC hN hx279) ?_;(conv=>whnf);refine nl ?_;(conv=>whnf);refine Side.mk rfl ⟨_, idx_0 hx277, idx_map _ hx277, ?_⟩;(conv=>whnf);refine nl ?_;(conv=>whnf);refine nl ?_;(conv=>whnf);refine nl ?_;(conv=>whnf);refine nl ?_;(conv=>whnf);refine Side.mk rfl ⟨_, idx_0 hx277, idx_map _ hx277, ?_⟩;(conv=>whnf);refine nl ?_;(conv=>whnf);refine nl ?_;(conv=>whnf);refine nl ?_;obtain ⟨v24, hx284, hx273⟩ := obind hx273;(conv=>whnf)
      refine SeqG.mk Unit (fun y => [(1, .d (.ref (.agg [.int .u8 c1.fForm, I c1.fPlayers, I c1.fGames, .list 3 (List.map Ref09Result.enc c1.fResults)]))), (3, .d (.list 4 (List.map Ref09Pair.enc r2))), (4, .sl 74 hd34), (5, .d (I n9)), (6, .d (I r181)), (7, .d (I r182)), (43, .d (.bool v24))]) (fun y => [(74, .arr hd34 41 5 false (List.map Ref09Match.enc l24))]) (fun _ => True) ?_ ?_
      ·(conv=>whnf);refine Br.mk (fun hc152 => ?_) (fun hc152 => ?_)
       ·replace hx284 := ite_f hc152 hx284;(conv=>whnf);refine Br.mk (fun hc153 => ?_) (fun hc153 => ?_)
        ·replace hx284 := ite_f hc153 hx284;obtain ⟨r186, hx285, hx284⟩ := obind hx284;(conv=>whnf);refine CallG.pure _ (ref09WonC hN hx285) ?_;cases hx284;(conv=>whnf);refine ⟨(), trivial, Sub.eq rfl ?_ ?_⟩
         ·(repeat ((conv=>whnf);refine nr ?_));exact trivial
         ·(conv=>whnf);refine no ?_;exact trivial
        ·replace hx284 := ite_t hc153 hx284;cases hx284;(conv=>whnf);refine ⟨(), trivial, Sub.eq rfl ?_ ?_⟩
         ·(repeat ((conv=>whnf);refine nr ?_));exact trivial
         ·(conv=>whnf);refine no ?_;exact trivial
       ·replace hx284 := ite_t hc152 hx284;cases hx284;(conv=>whnf);refine ⟨(), trivial, Sub.eq rfl ?_ ?_⟩
        ·(repeat ((conv=>whnf);refine nr ?_));exact trivial
        ·(conv=>whnf);refine no ?_;exact trivial
      ·rintro _ _;(conv=>whnf);refine Br.mk (fun hc154 => ?_) (fun hc154 => ?_)
       ·replace hx273 := ite_t hc154 hx273;cases hx273;(conv=>whnf);refine ⟨hd34, trivial, Sub.eq rfl ?_ ?_⟩
        ·(repeat ((conv=>whnf);refine nr ?_));exact trivial
        ·(conv=>whnf);refine no ?_;exact trivial
       ·replace hx273 := ite_f hc154 hx273;(conv=>whnf);intro b24;(conv=>whnf);refine sr ?_;obtain ⟨m12, hx291, hx273⟩ := obind hx273;(conv=>whnf);refine SeqG.mk Unit (fun y => [(1, .d (.ref (.agg [.int .u8 c1.fForm, I c1.fPlayers, I c1.fGames, .list 3 (List.map Ref09Result.enc c1.fResults)]))), (3, .d (.list 4 (List.map Ref09Pair.enc r2))), (4, .sl 74 hd34), (5, .d (I n9)), (8, .ptr 8 b24 0)]) (fun y => [(74, .arr hd34 41 5 false (List.map Ref09Match.enc l24)), (8, .cells b24 [.d (I m12.fNumber), .d (I m12.fFirst), .d (I m12.fSecond), .d (I m12.fWon), .d (I m12.fLost)])]) (fun _ => True) ?_ ?_
        ·obtain ⟨r192, hx293, hx291⟩ := obind hx291;(conv=>whnf);refine CallG.pure _ (ref09FindC hN hx293) ?_;(conv=>whnf);refine Br.mk (fun hc156 => ?_) (fun hc156 => ?_)
         ·replace hx291 := ite_t hc156 hx291;obtain ⟨x48, hx294, hx291⟩ := obind hx291;obtain ⟨r193, hx295, hx291⟩ := obind hx291;obtain ⟨r194, hx296, hx291⟩ := obind hx291;(conv=>whnf);refine DrawG.mk (.take 0 (.take 1 (.take 2 (.take 3 (.take 4 (.take 5 (.take 6 (.take 8 (.take 9 (.take 10 (.take 11 (.take 12 (.take 13 (.take 14 (.alt 7 [14, 13, 12, 11, 10, 9, 8, 4, 3, 2, 1, 0] (.take 16 (.alt 15 [16, 12, 11, 10, 9, 8, 4, 3, 2, 1, 0] (.alt 17 [12, 11, 10, 9, 8] (.take 18 (.alt 19 [] .done .nil)) .nil) .nil)) .nil))))))))))))))) (by kernel_rfl) ?_;(conv=>whnf);refine Side.mk rfl ⟨_, idx_0 hx294, idx_map _ hx294, ?_⟩;(conv=>whnf);refine Side.mk rfl ⟨_, idx_0 hx294, idx_map _ hx294, ?_⟩;(conv=>whnf);refine Both.mk ?_ trivial;(conv=>whnf);refine CallG.pure _ (ref09WinsC hN hx295) ?_;(conv=>whnf);refine nl ?_;(conv=>whnf);refine nl ?_;(conv=>whnf);refine nl ?_;(conv=>whnf)
          refine Side.mk rfl ⟨_, idx_0 hx294, idx_map _ hx294, ?_⟩;(conv=>whnf);refine nl ?_;(conv=>whnf);refine nl ?_;(conv=>whnf);refine nl ?_;(conv=>whnf);refine nl ?_;(conv=>whnf);refine nl ?_;(conv=>whnf);refine Side.mk rfl ⟨_, idx_0 hx294, idx_map _ hx294, ?_⟩;(conv=>whnf);refine nl ?_;(conv=>whnf);refine nl ?_;(conv=>whnf);refine nl ?_;(conv=>whnf);refine nl ?_;(conv=>whnf);refine Both.mk ?_ trivial;(conv=>whnf);refine CallG.pure _ (ref09WinsC hN hx296) ?_;(conv=>whnf);refine nl ?_;(conv=>whnf);refine nl ?_;(conv=>whnf);refine Side.mk rfl ⟨_, idx_0 hx294, idx_map _ hx294, ?_⟩;(conv=>whnf);refine nl ?_;(conv=>whnf);refine nl ?_;(conv=>whnf);refine nl ?_;(conv=>whnf);refine nl ?_;(conv=>whnf);refine nl ?_;(conv=>whnf);refine Side.mk rfl ⟨_, idx_0 hx294, idx_map _ hx294, ?_⟩;(conv=>whnf);refine nl ?_;(conv=>whnf);refine nl ?_;(conv=>whnf);refine nl ?_;(conv=>whnf);refine nl ?_
          (conv=>whnf);refine Both.mk ?_ trivial;(conv=>whnf);refine sr ?_;(conv=>whnf);refine nl ?_;(conv=>whnf);refine Side.mk rfl ⟨_, idx_0 hx294, idx_map _ hx294, ?_⟩;(conv=>whnf);refine nl ?_;(conv=>whnf);refine nl ?_;(conv=>whnf);refine nl ?_;(conv=>whnf);refine nl ?_;(conv=>whnf);refine Both.mk ?_ trivial;(conv=>whnf);refine sr ?_;cases hx291;(conv=>whnf);refine ⟨(), trivial, Sub.eq rfl ?_ ?_⟩
          ·(repeat ((conv=>whnf);refine nr ?_));exact trivial
          ·(conv=>whnf);refine no ?_;(conv=>whnf);refine no ?_;exact trivial
         ·replace hx291 := ite_f hc156 hx291;cases hx291;(conv=>whnf);refine ⟨(), trivial, Sub.eq rfl ?_ ?_⟩
          ·(repeat ((conv=>whnf);refine nr ?_));exact trivial
          ·(conv=>whnf);refine no ?_;(conv=>whnf);refine no ?_;exact trivial
        ·rintro _ _;(conv=>whnf);refine sr ?_;(conv=>whnf);intro hd38;obtain ⟨l27, hx297, hx273⟩ := obind hx273;(conv=>whnf);refine Side.mk ⟨rfl, rfl⟩ ?_;(conv=>whnf);refine Side.mk ⟨rfl, rfl, rfl⟩ (Need.mk (app_need hN hx297 (by decide)) (Eqv.mk (List.map Ref09Match.enc l27) (app_map _ hx297) ?_));(conv=>whnf);intro hd39;cases hx273;(conv=>whnf);refine ⟨hd39, trivial, Sub.eq rfl ?_ ?_⟩
         ·(repeat ((conv=>whnf);refine nr ?_));exact trivial
         ·(conv=>whnf);refine no ?_;exact trivial
     ·rintro hd37 _;(conv=>whnf);refine ⟨(n10, (w64 (n9 + 1), l26), hd37), hl2, Sub.eq rfl ?_ ?_, Nat.lt_succ_self _⟩
      ·(repeat ((conv=>whnf);refine nr ?_));exact trivial
      ·(conv=>whnf);refine no ?_;exact trivial
    ·replace hl2 := ite_f hc132 hl2;cases hl2;(conv=>whnf);refine ⟨hd34, trivial, Sub.eq rfl ?_ ?_⟩
     ·(repeat ((conv=>whnf);refine nr ?_));exact trivial
     ·(conv=>whnf);refine no ?_;exact trivial
  ·rintro hd20 _;(conv=>whnf);refine sr ?_;(conv=>whnf);cases h;exact rfl
end Go.Proofs.Ytbceakhnnnfiaaa
