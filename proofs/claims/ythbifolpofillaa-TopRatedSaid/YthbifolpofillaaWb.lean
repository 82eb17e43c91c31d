/-
  Walks: what the typed functions compute, the program’s functions return.
-/
import Derived.Test.YthbifolpofillaaWe
import Derived.Test.YthbifolpofillaaWa
namespace Go.Proofs.Ythbifolpofillaa
open Go Go.Abs Go.Kp
set_option maxRecDepth 100000
set_option maxHeartbeats 8000000
set_option linter.all false

def rateBookReadP  : Int ⊕ (Int × Int × Int × Int × Int × Int × (List Int) × (List RateSheet) × (List Int) × (List (RateTurn × RateSheet))) → AE → List (Nat × Ob) → Prop
  | .inl r => fun ae os => ∃ y : Unit, True ∧ ae = .ret (.d (.tup [.nilptr, I r])) ∧ os = []
  | .inr r => fun ae os => ∃ y : Nat × Nat, True ∧ ae = .ret (.tup [.ptr 200019 y.1 0, .d (I r.1)]) ∧ os = [(200019, .cells y.1 [.d (I r.2.1), .d (I r.2.2.1), .d (I r.2.2.2.1), .d (I r.2.2.2.2.1), .d (I r.2.2.2.2.2.1), .d (.list 1 (List.map I r.2.2.2.2.2.2.1)), .d (.list 6 (List.map RateSheet.enc r.2.2.2.2.2.2.2.1)), .d (.list 1 (List.map I r.2.2.2.2.2.2.2.2.1)), .mp 200017 y.2]), (200017, .map y.2 (List.map (fun p => (.agg [I p.1.fBowler, I p.1.fWeek], .agg [I p.2.fNumber, I p.2.fBowler, I p.2.fWeek, I p.2.fGames.a0, I p.2.fGames.a1, I p.2.fGames.a2])) r.2.2.2.2.2.2.2.2.2))]

theorem rateBookReadC {N : Nat} (hN : N ≤ 1073741824) {a1 : RateBook} {r : Int ⊕ (Int × Int × Int × Int × Int × Int × (List Int) × (List RateSheet) × (List Int) × (List (RateTurn × RateSheet)))} (h : rateBookRead N a1 = some r) :
    ACalls Try.prog 39 [.d (.agg [I a1.fLaw.fBase, I a1.fLaw.fPercent, I a1.fLaw.fCap, I a1.fLaw.fLeast, I a1.fLaw.fBlind, .list 1 (List.map I a1.fBowlers), .list 6 (List.map RateSheet.enc a1.fSheets), .list 1 (List.map I a1.fWithdrawn)])] [] (rateBookReadP  r) := by
  refine acalls_pred tt_ok dr_ok ⟨[1], [], [], [], [9, 10, 1005, 1007], 200000⟩ Try.func39 rfl Try.call39 rfl ?_
  unfold rateBookRead at h
  obtain ⟨r4, hx4, h⟩ := obind h
  conv => whnf
  refine CallG.pure _ (rateCheckBookC hN hx4) ?_
  conv => whnf
  refine Br.mk (fun hc2 => ?_) (fun hc2 => ?_)
  · replace h := ite_t hc2 h
    conv => whnf
    cases h
    exact ⟨_, ⟨(), trivial, rfl, rfl⟩, inO_at (ren := id) trivial⟩
  · replace h := ite_f hc2 h
    conv => whnf
    intro b3
    conv => whnf
    intro b4
    obtain ⟨m8, hx56, h⟩ := obind h
    conv => whnf
    refine SeqG.mk Unit (fun y => [(5, .ptr 200019 b4 0)]) (fun y => [(200019, .cells b4 [.d (I a1.fLaw.fBase), .d (I a1.fLaw.fPercent), .d (I a1.fLaw.fCap), .d (I a1.fLaw.fLeast), .d (I a1.fLaw.fBlind), .d (.list 1 (List.map I a1.fBowlers)), .d (.list 6 (List.map RateSheet.enc a1.fSheets)), .d (.list 1 (List.map I a1.fWithdrawn)), .mp 200017 b3]), (200017, .map b3 (List.map (fun p => (.agg [I p.1.fBowler, I p.1.fWeek], .agg [I p.2.fNumber, I p.2.fBowler, I p.2.fWeek, I p.2.fGames.a0, I p.2.fGames.a1, I p.2.fGames.a2])) m8))]) (fun _ => True) ?_ ?_
    · conv => whnf
      refine Ln.mk _ (List.length_map _) ?_
      conv => whnf
      refine LoopG.mk (Nat × (Int × Int × (List (RateTurn × RateSheet)))) (fun y => [(1, .d (.ref (.agg [I a1.fLaw.fBase, I a1.fLaw.fPercent, I a1.fLaw.fCap, I a1.fLaw.fLeast, I a1.fLaw.fBlind, .list 1 (List.map I a1.fBowlers), .list 6 (List.map RateSheet.enc a1.fSheets), .list 1 (List.map I a1.fWithdrawn)]))), (5, .ptr 200019 b4 0), (21, .d (.list 6 (List.map RateSheet.enc a1.fSheets))), (22, .d (I y.2.1)), (23, .d (I y.2.2.1))]) (fun y => [(200019, .cells b4 [.d (I a1.fLaw.fBase), .d (I a1.fLaw.fPercent), .d (I a1.fLaw.fCap), .d (I a1.fLaw.fLeast), .d (I a1.fLaw.fBlind), .d (.list 1 (List.map I a1.fBowlers)), .d (.list 6 (List.map RateSheet.enc a1.fSheets)), .d (.list 1 (List.map I a1.fWithdrawn)), .mp 200017 b3]), (200017, .map b3 (List.map (fun p => (.agg [I p.1.fBowler, I p.1.fWeek], .agg [I p.2.fNumber, I p.2.fBowler, I p.2.fWeek, I p.2.fGames.a0, I p.2.fGames.a1, I p.2.fGames.a2])) y.2.2.2))]) (fun y => loopN (fun rr x => rateBookRead_b1 N a1 rr x.1 x.2.1 x.2.2) y.1 y.2 = some m8) (fun y => y.1) (N, ((a1.fSheets.length : Int), 0, [])) hx56 (Sub.eq rfl ?_ ?_) ?_
      · repeat ((conv => whnf); refine Need.mk rfl ?_)
        exact trivial
      · conv => whnf
        refine Need.mk (OLe.refl _) ?_
        conv => whnf
        refine Need.mk (OLe.refl _) ?_
        exact trivial
      · rintro ⟨n2, ⟨v57, v58, m14⟩⟩ hl2
        obtain ⟨n2, rfl, hl2⟩ := loopN_some hl2
        replace hl2 : rateBookRead_b1 N a1 (loopN (fun rr x => rateBookRead_b1 N a1 rr x.1 x.2.1 x.2.2) n2) v57 v58 m14 = some m8 := hl2
        rw [rateBookRead_b1] at hl2
        conv => whnf
        refine Br.mk (fun hc64 => ?_) (fun hc64 => ?_)
        · replace hl2 := ite_t hc64 hl2
          obtain ⟨m15, hx99, hl2⟩ := obind hl2
          conv => whnf
          refine SeqG.mk Unit (fun y => [(1, .d (.ref (.agg [I a1.fLaw.fBase, I a1.fLaw.fPercent, I a1.fLaw.fCap, I a1.fLaw.fLeast, I a1.fLaw.fBlind, .list 1 (List.map I a1.fBowlers), .list 6 (List.map RateSheet.enc a1.fSheets), .list 1 (List.map I a1.fWithdrawn)]))), (5, .ptr 200019 b4 0), (21, .d (.list 6 (List.map RateSheet.enc a1.fSheets))), (22, .d (I v57)), (23, .d (I v58))]) (fun y => [(200019, .cells b4 [.d (I a1.fLaw.fBase), .d (I a1.fLaw.fPercent), .d (I a1.fLaw.fCap), .d (I a1.fLaw.fLeast), .d (I a1.fLaw.fBlind), .d (.list 1 (List.map I a1.fBowlers)), .d (.list 6 (List.map RateSheet.enc a1.fSheets)), .d (.list 1 (List.map I a1.fWithdrawn)), .mp 200017 b3]), (200017, .map b3 (List.map (fun p => (.agg [I p.1.fBowler, I p.1.fWeek], .agg [I p.2.fNumber, I p.2.fBowler, I p.2.fWeek, I p.2.fGames.a0, I p.2.fGames.a1, I p.2.fGames.a2])) m15))]) (fun _ => True) ?_ ?_
          · obtain ⟨x24, hx101, hx99⟩ := obind hx99
            conv => whnf
            refine Side.mk rfl ⟨_, idx_0 hx101, idx_map _ hx101, ?_⟩
            conv => whnf
            intro b116
            conv => whnf
            refine Side.mk rfl ?_
            conv => whnf
            refine Side.mk rfl ?_
            conv => whnf
            refine Side.mk rfl ?_
            conv => whnf
            intro b118
            conv => whnf
            refine Side.mk rfl ?_
            obtain ⟨⟨v64, c12⟩, hx103, hx99⟩ := obind hx99
            conv => whnf
            refine SeqG.mk Nat (fun y => [(1, .d (.ref (.agg [I a1.fLaw.fBase, I a1.fLaw.fPercent, I a1.fLaw.fCap, I a1.fLaw.fLeast, I a1.fLaw.fBlind, .list 1 (List.map I a1.fBowlers), .list 6 (List.map RateSheet.enc a1.fSheets), .list 1 (List.map I a1.fWithdrawn)]))), (5, .ptr 200019 b4 0), (7, .ptr 200007 b116 0), (8, .ptr 200008 b118 0), (9, .ptr 200009 y 0), (10, .d (.bool v64)), (21, .d (.list 6 (List.map RateSheet.enc a1.fSheets))), (22, .d (I v57)), (23, .d (I v58))]) (fun y => [(200019, .cells b4 [.d (I a1.fLaw.fBase), .d (I a1.fLaw.fPercent), .d (I a1.fLaw.fCap), .d (I a1.fLaw.fLeast), .d (I a1.fLaw.fBlind), .d (.list 1 (List.map I a1.fBowlers)), .d (.list 6 (List.map RateSheet.enc a1.fSheets)), .d (.list 1 (List.map I a1.fWithdrawn)), .mp 200017 b3]), (200007, .cells b116 [.d (I x24.fNumber), .d (I x24.fBowler), .d (I x24.fWeek), .d (I x24.fGames.a0), .d (I x24.fGames.a1), .d (I x24.fGames.a2)]), (200008, .cells b118 [.d (I x24.fBowler), .d (I x24.fWeek)]), (200009, .cells y [.d (I c12.fNumber), .d (I c12.fBowler), .d (I c12.fWeek), .d (I c12.fGames.a0), .d (I c12.fGames.a1), .d (I c12.fGames.a2)]), (200017, .map b3 (List.map (fun p => (.agg [I p.1.fBowler, I p.1.fWeek], .agg [I p.2.fNumber, I p.2.fBowler, I p.2.fWeek, I p.2.fGames.a0, I p.2.fGames.a1, I p.2.fGames.a2])) m14))]) (fun _ => True) ?_ ?_
            · obtain ⟨⟨v65, is24⟩, hx104, hx103⟩ := obind hx103
              conv => whnf
              refine DrawG.mk (.take 0 (.take 1 (.take 2 (.take 3 (.take 4 (.alt 5 [2, 1, 0] (.take 6 (.take 7 (.take 8 (.alt 9 [8, 7, 6, 2, 1, 0] (.alt 10 [8] (.take 11 .done) .nil) .nil)))) (.alt 9 [4, 3, 2, 1, 0] (.alt 5 [2, 1, 0] (.take 6 (.take 7 (.take 8 (.alt 10 [8] (.take 11 .done) .nil)))) .nil) .nil))))))) (by kernel_rfl) ?_
              conv => whnf
              refine Side.mk rfl ?_
              conv => whnf
              refine Side.mk rfl ?_
              conv => whnf
              refine Both.mk ?_ ?_
              · conv => whnf
                refine Side.mk rfl (Need.mk rfl (Need.mk (fit_all (fun x : RateTurn => .agg [I x.fBowler, I x.fWeek]) (fun x : RateSheet => .agg [I x.fNumber, I x.fBowler, I x.fWeek, I x.fGames.a0, I x.fGames.a1, I x.fGames.a2]) fun _ => rfl) (LkG.mk (.agg [I v65.fNumber, I v65.fBowler, I v65.fWeek, I v65.fGames.a0, I v65.fGames.a1, I v65.fGames.a2]) is24 (mgt_v (eK := (fun x : RateTurn => .agg [I x.fBowler, I x.fWeek])) (eV := (fun x : RateSheet => .agg [I x.fNumber, I x.fBowler, I x.fWeek, I x.fGames.a0, I x.fGames.a1, I x.fGames.a2])) RateTurn.eqc hx104) (mgt_b (eK := (fun x : RateTurn => .agg [I x.fBowler, I x.fWeek])) (eV := (fun x : RateSheet => .agg [I x.fNumber, I x.fBowler, I x.fWeek, I x.fGames.a0, I x.fGames.a1, I x.fGames.a2])) RateTurn.eqc hx104) ?_)))
                conv => whnf
                refine Need.mk (AV.le_refl _) ?_
                conv => whnf
                refine Need.mk (AV.le_refl _) ?_
                conv => whnf
                refine Need.mk (AV.le_refl _) ?_
                conv => whnf
                refine Both.mk ?_ trivial
                conv => whnf
                intro b123
                conv => whnf
                refine Need.mk (AV.le_refl _) ?_
                conv => whnf
                refine Need.mk (AV.le_refl _) ?_
                conv => whnf
                refine Need.mk (AV.le_refl _) ?_
                conv => whnf
                refine Need.mk (AV.le_refl _) ?_
                conv => whnf
                refine Need.mk (AV.le_refl _) ?_
                conv => whnf
                refine Need.mk (AV.le_refl _) ?_
                conv => whnf
                refine Both.mk ?_ trivial
                conv => whnf
                refine Side.mk rfl ?_
                conv => whnf
                refine Need.mk (AV.le_refl _) ?_
                cases hx103
                conv => whnf
                refine ⟨b123, trivial, Sub.eq rfl ?_ ?_⟩
                · repeat ((conv => whnf); refine Need.mk rfl ?_)
                  exact trivial
                · conv => whnf
                  refine Need.mk (OLe.refl _) ?_
                  conv => whnf
                  refine Need.mk (OLe.refl _) ?_
                  conv => whnf
                  refine Need.mk (OLe.refl _) ?_
                  conv => whnf
                  refine Need.mk (OLe.refl _) ?_
                  conv => whnf
                  refine Need.mk (OLe.refl _) ?_
                  exact trivial
              · conv => whnf
                refine Both.mk ?_ trivial
                conv => whnf
                intro b124
                conv => whnf
                refine Side.mk rfl ?_
                conv => whnf
                refine Need.mk (AV.le_refl _) ?_
                conv => whnf
                refine Side.mk rfl ?_
                conv => whnf
                refine Need.mk (AV.le_refl _) ?_
                conv => whnf
                refine Need.mk (AV.le_refl _) ?_
                conv => whnf
                refine Need.mk (AV.le_refl _) ?_
                conv => whnf
                refine Need.mk (AV.le_refl _) ?_
                conv => whnf
                refine Both.mk ?_ trivial
                conv => whnf
                refine Side.mk rfl (Need.mk rfl (Need.mk (fit_all (fun x : RateTurn => .agg [I x.fBowler, I x.fWeek]) (fun x : RateSheet => .agg [I x.fNumber, I x.fBowler, I x.fWeek, I x.fGames.a0, I x.fGames.a1, I x.fGames.a2]) fun _ => rfl) (LkG.mk (.agg [I v65.fNumber, I v65.fBowler, I v65.fWeek, I v65.fGames.a0, I v65.fGames.a1, I v65.fGames.a2]) is24 (mgt_v (eK := (fun x : RateTurn => .agg [I x.fBowler, I x.fWeek])) (eV := (fun x : RateSheet => .agg [I x.fNumber, I x.fBowler, I x.fWeek, I x.fGames.a0, I x.fGames.a1, I x.fGames.a2])) RateTurn.eqc hx104) (mgt_b (eK := (fun x : RateTurn => .agg [I x.fBowler, I x.fWeek])) (eV := (fun x : RateSheet => .agg [I x.fNumber, I x.fBowler, I x.fWeek, I x.fGames.a0, I x.fGames.a1, I x.fGames.a2])) RateTurn.eqc hx104) ?_)))
                conv => whnf
                refine Need.mk (AV.le_refl _) ?_
                conv => whnf
                refine Need.mk (AV.le_refl _) ?_
                conv => whnf
                refine Need.mk (AV.le_refl _) ?_
                conv => whnf
                refine Both.mk ?_ trivial
                conv => whnf
                refine Side.mk rfl ?_
                conv => whnf
                refine Need.mk (AV.le_refl _) ?_
                cases hx103
                conv => whnf
                refine ⟨b124, trivial, Sub.eq rfl ?_ ?_⟩
                · repeat ((conv => whnf); refine Need.mk rfl ?_)
                  exact trivial
                · conv => whnf
                  refine Need.mk (OLe.refl _) ?_
                  conv => whnf
                  refine Need.mk (OLe.refl _) ?_
                  conv => whnf
                  refine Need.mk (OLe.refl _) ?_
                  conv => whnf
                  refine Need.mk (OLe.refl _) ?_
                  conv => whnf
                  refine Need.mk (OLe.refl _) ?_
                  exact trivial
            · rintro bb12 _
              obtain ⟨v66, hx106, hx99⟩ := obind hx99
              conv => whnf
              refine SeqG.mk Unit (fun y => [(1, .d (.ref (.agg [I a1.fLaw.fBase, I a1.fLaw.fPercent, I a1.fLaw.fCap, I a1.fLaw.fLeast, I a1.fLaw.fBlind, .list 1 (List.map I a1.fBowlers), .list 6 (List.map RateSheet.enc a1.fSheets), .list 1 (List.map I a1.fWithdrawn)]))), (5, .ptr 200019 b4 0), (7, .ptr 200007 b116 0), (8, .ptr 200008 b118 0), (21, .d (.list 6 (List.map RateSheet.enc a1.fSheets))), (22, .d (I v57)), (23, .d (I v58)), (57, .d (.bool v66))]) (fun y => [(200019, .cells b4 [.d (I a1.fLaw.fBase), .d (I a1.fLaw.fPercent), .d (I a1.fLaw.fCap), .d (I a1.fLaw.fLeast), .d (I a1.fLaw.fBlind), .d (.list 1 (List.map I a1.fBowlers)), .d (.list 6 (List.map RateSheet.enc a1.fSheets)), .d (.list 1 (List.map I a1.fWithdrawn)), .mp 200017 b3]), (200007, .cells b116 [.d (I x24.fNumber), .d (I x24.fBowler), .d (I x24.fWeek), .d (I x24.fGames.a0), .d (I x24.fGames.a1), .d (I x24.fGames.a2)]), (200008, .cells b118 [.d (I x24.fBowler), .d (I x24.fWeek)]), (200017, .map b3 (List.map (fun p => (.agg [I p.1.fBowler, I p.1.fWeek], .agg [I p.2.fNumber, I p.2.fBowler, I p.2.fWeek, I p.2.fGames.a0, I p.2.fGames.a1, I p.2.fGames.a2])) m14))]) (fun _ => True) ?_ ?_
              · conv => whnf
                refine Side.mk rfl ?_
                obtain ⟨r28, hx107, hx106⟩ := obind hx106
                conv => whnf
                refine CallG.pure _ (slicesContainsC hN hx107) ?_
                conv => whnf
                refine Br.mk (fun hc72 => ?_) (fun hc72 => ?_)
                · replace hx106 := ite_t hc72 hx106
                  conv => whnf
                  refine Br.mk (fun hc73 => ?_) (fun hc73 => ?_)
                  · replace hx106 := ite_f hc73 hx106
                    conv => whnf
                    refine Side.mk rfl ?_
                    conv => whnf
                    refine Side.mk rfl ?_
                    cases hx106
                    conv => whnf
                    refine ⟨(), trivial, Sub.eq rfl ?_ ?_⟩
                    · repeat ((conv => whnf); refine Need.mk rfl ?_)
                      exact trivial
                    · conv => whnf
                      refine Need.mk (OLe.refl _) ?_
                      conv => whnf
                      refine Need.mk (OLe.refl _) ?_
                      conv => whnf
                      refine Need.mk (OLe.refl _) ?_
                      conv => whnf
                      refine Need.mk (OLe.refl _) ?_
                      exact trivial
                  · replace hx106 := ite_t hc73 hx106
                    cases hx106
                    conv => whnf
                    refine ⟨(), trivial, Sub.eq rfl ?_ ?_⟩
                    · repeat ((conv => whnf); refine Need.mk rfl ?_)
                      exact trivial
                    · conv => whnf
                      refine Need.mk (OLe.refl _) ?_
                      conv => whnf
                      refine Need.mk (OLe.refl _) ?_
                      conv => whnf
                      refine Need.mk (OLe.refl _) ?_
                      conv => whnf
                      refine Need.mk (OLe.refl _) ?_
                      exact trivial
                · replace hx106 := ite_f hc72 hx106
                  cases hx106
                  conv => whnf
                  refine ⟨(), trivial, Sub.eq rfl ?_ ?_⟩
                  · repeat ((conv => whnf); refine Need.mk rfl ?_)
                    exact trivial
                  · conv => whnf
                    refine Need.mk (OLe.refl _) ?_
                    conv => whnf
                    refine Need.mk (OLe.refl _) ?_
                    conv => whnf
                    refine Need.mk (OLe.refl _) ?_
                    conv => whnf
                    refine Need.mk (OLe.refl _) ?_
                    exact trivial
              · rintro _ _
                conv => whnf
                refine Br.mk (fun hc74 => ?_) (fun hc74 => ?_)
                · replace hx99 := ite_t hc74 hx99
                  conv => whnf
                  refine DrawG.mk (.take 0 (.take 1 (.take 2 (.take 3 (.take 4 (.take 5 (.alt 6 [] .done .nil))))))) (by kernel_rfl) ?_
                  conv => whnf
                  refine Side.mk rfl ?_
                  conv => whnf
                  refine Side.mk rfl ?_
                  conv => whnf
                  refine Side.mk rfl ?_
                  conv => whnf
                  refine Both.mk ?_ trivial
                  conv => whnf
                  refine Side.mk rfl (Need.mk rfl (Need.mk (fit_all (fun x : RateTurn => .agg [I x.fBowler, I x.fWeek]) (fun x : RateSheet => .agg [I x.fNumber, I x.fBowler, I x.fWeek, I x.fGames.a0, I x.fGames.a1, I x.fGames.a2]) fun _ => rfl) (MEqv.mk (List.map (fun p => (.agg [I p.1.fBowler, I p.1.fWeek], .agg [I p.2.fNumber, I p.2.fBowler, I p.2.fWeek, I p.2.fGames.a0, I p.2.fGames.a1, I p.2.fGames.a2])) (mput m14 (RateTurn.mk x24.fBowler x24.fWeek) x24)) (mput_D (eK := (fun x : RateTurn => .agg [I x.fBowler, I x.fWeek])) (eV := (fun x : RateSheet => .agg [I x.fNumber, I x.fBowler, I x.fWeek, I x.fGames.a0, I x.fGames.a1, I x.fGames.a2])) RateTurn.eqc m14 (RateTurn.mk x24.fBowler x24.fWeek) x24) ?_)))
                  cases hx99
                  conv => whnf
                  refine ⟨(), trivial, Sub.eq rfl ?_ ?_⟩
                  · repeat ((conv => whnf); refine Need.mk rfl ?_)
                    exact trivial
                  · conv => whnf
                    refine Need.mk (OLe.refl _) ?_
                    conv => whnf
                    refine Need.mk (OLe.refl _) ?_
                    exact trivial
                · replace hx99 := ite_f hc74 hx99
                  cases hx99
                  conv => whnf
                  refine ⟨(), trivial, Sub.eq rfl ?_ ?_⟩
                  · repeat ((conv => whnf); refine Need.mk rfl ?_)
                    exact trivial
                  · conv => whnf
                    refine Need.mk (OLe.refl _) ?_
                    conv => whnf
                    refine Need.mk (OLe.refl _) ?_
                    exact trivial
          · rintro _ _
            conv => whnf
            refine ⟨(n2, (v57, w64 (v58 + 1), m15)), hl2, Sub.eq rfl ?_ ?_, Nat.lt_succ_self _⟩
            · repeat ((conv => whnf); refine Need.mk rfl ?_)
              exact trivial
            · conv => whnf
              refine Need.mk (OLe.refl _) ?_
              conv => whnf
              refine Need.mk (OLe.refl _) ?_
              exact trivial
        · replace hl2 := ite_f hc64 hl2
          cases hl2
          conv => whnf
          refine ⟨(), trivial, Sub.eq rfl ?_ ?_⟩
          · repeat ((conv => whnf); refine Need.mk rfl ?_)
            exact trivial
          · conv => whnf
            refine Need.mk (OLe.refl _) ?_
            conv => whnf
            refine Need.mk (OLe.refl _) ?_
            exact trivial
    · rintro _ _
      conv => whnf
      cases h
      exact ⟨_, ⟨(b4, b3), trivial, rfl, rfl⟩, inO_at (ren := id) (And.intro rfl (And.intro rfl trivial))⟩

def rateBookAskedP  : Int ⊕ (Int × Int × Int × Int × Int × Int × (List Int) × (List RateSheet) × (List Int) × (List (RateTurn × RateSheet))) → AE → List (Nat × Ob) → Prop
  | .inl r => fun ae os => ∃ y : Unit, True ∧ ae = .ret (.d (.tup [.nilptr, I r])) ∧ os = []
  | .inr r => fun ae os => ∃ y : Nat × Nat, True ∧ ae = .ret (.tup [.ptr 200019 y.1 0, .d (I r.1)]) ∧ os = [(200019, .cells y.1 [.d (I r.2.1), .d (I r.2.2.1), .d (I r.2.2.2.1), .d (I r.2.2.2.2.1), .d (I r.2.2.2.2.2.1), .d (.list 1 (List.map I r.2.2.2.2.2.2.1)), .d (.list 6 (List.map RateSheet.enc r.2.2.2.2.2.2.2.1)), .d (.list 1 (List.map I r.2.2.2.2.2.2.2.2.1)), .mp 200017 y.2]), (200017, .map y.2 (List.map (fun p => (.agg [I p.1.fBowler, I p.1.fWeek], .agg [I p.2.fNumber, I p.2.fBowler, I p.2.fWeek, I p.2.fGames.a0, I p.2.fGames.a1, I p.2.fGames.a2])) r.2.2.2.2.2.2.2.2.2))]

theorem rateBookAskedC {N : Nat} (hN : N ≤ 1073741824) {b1 : RateBook} {bowler1 : Int} {w1 : Int} {r : Int ⊕ (Int × Int × Int × Int × Int × Int × (List Int) × (List RateSheet) × (List Int) × (List (RateTurn × RateSheet)))} (h : rateBookAsked N b1 bowler1 w1 = some r) :
    ACalls Try.prog 24 [.d (.agg [I b1.fLaw.fBase, I b1.fLaw.fPercent, I b1.fLaw.fCap, I b1.fLaw.fLeast, I b1.fLaw.fBlind, .list 1 (List.map I b1.fBowlers), .list 6 (List.map RateSheet.enc b1.fSheets), .list 1 (List.map I b1.fWithdrawn)]), .d (I bowler1), .d (I w1)] [] (rateBookAskedP  r) := by
  refine acalls_pred tt_ok dr_ok ⟨[3], [], [], [], [2, 1002], 125000⟩ Try.func24 rfl Try.call24 rfl ?_
  unfold rateBookAsked at h
  obtain ⟨z2, hx2, h⟩ := obind h
  rcases z2 with r2 | ⟨ra2, rb2, rc2, rd2, re2, rf2, rg2, rh2, ri2, rj2⟩
  · conv => whnf
    refine CallG.own (rateBookReadC hN hx2) id [] _ (fun y => []) (all2_le_refl _) trivial rfl trivial trivial (fun _ => AV.le_refl _) (fun _ => rfl) ?_
    rintro _ _
    obtain ⟨e1, hx8, h⟩ := obind h
    conv => whnf
    refine SeqG.mk Unit (fun y => [(8, .d .nilptr), (9, .d (I e1))]) (fun y => []) (fun _ => True) ?_ ?_
    · obtain ⟨v2, hx11, hx8⟩ := obind hx8
      conv => whnf
      refine SeqG.mk Unit (fun y => [(8, .d .nilptr), (9, .d (I r2)), (27, .d (.bool v2))]) (fun y => []) (fun _ => True) ?_ ?_
      · conv => whnf
        refine Br.mk (fun hc8 => ?_) (fun hc8 => ?_)
        · replace hx11 := ite_t hc8 hx11
          obtain ⟨r9, hx12, hx11⟩ := obind hx11
          conv => whnf
          refine CallG.pure _ (rateBookBowlerC hN hx12) ?_
          conv => whnf
          refine Br.mk (fun hc9 => ?_) (fun hc9 => ?_)
          · replace hx11 := ite_f hc9 hx11
            obtain ⟨r10, hx13, hx11⟩ := obind hx11
            conv => whnf
            refine CallG.pure _ (rateWeekC hN hx13) ?_
            cases hx11
            conv => whnf
            refine ⟨(), trivial, Sub.eq rfl ?_ ?_⟩
            · repeat ((conv => whnf); refine Need.mk rfl ?_)
              exact trivial
            · exact trivial
          · replace hx11 := ite_t hc9 hx11
            cases hx11
            conv => whnf
            refine ⟨(), trivial, Sub.eq rfl ?_ ?_⟩
            · repeat ((conv => whnf); refine Need.mk rfl ?_)
              exact trivial
            · exact trivial
        · replace hx11 := ite_f hc8 hx11
          cases hx11
          conv => whnf
          refine ⟨(), trivial, Sub.eq rfl ?_ ?_⟩
          · repeat ((conv => whnf); refine Need.mk rfl ?_)
            exact trivial
          · exact trivial
      · rintro _ _
        conv => whnf
        refine Br.mk (fun hc10 => ?_) (fun hc10 => ?_)
        · replace hx8 := ite_t hc10 hx8
          cases hx8
          conv => whnf
          refine ⟨(), trivial, Sub.eq rfl ?_ ?_⟩
          · repeat ((conv => whnf); refine Need.mk rfl ?_)
            exact trivial
          · exact trivial
        · replace hx8 := ite_f hc10 hx8
          cases hx8
          conv => whnf
          refine ⟨(), trivial, Sub.eq rfl ?_ ?_⟩
          · repeat ((conv => whnf); refine Need.mk rfl ?_)
            exact trivial
          · exact trivial
    · rintro _ _
      conv => whnf
      cases h
      exact ⟨_, ⟨(), trivial, rfl, rfl⟩, inO_at (ren := id) trivial⟩
  · conv => whnf
    refine CallG.own (rateBookReadC hN hx2) id [] _ (fun y => [(200019, .cells y.1 [.d (I rb2), .d (I rc2), .d (I rd2), .d (I re2), .d (I rf2), .d (.list 1 (List.map I rg2)), .d (.list 6 (List.map RateSheet.enc rh2)), .d (.list 1 (List.map I ri2)), .mp 200017 y.2]), (200017, .map y.2 (List.map (fun p => (.agg [I p.1.fBowler, I p.1.fWeek], .agg [I p.2.fNumber, I p.2.fBowler, I p.2.fWeek, I p.2.fGames.a0, I p.2.fGames.a1, I p.2.fGames.a2])) rj2))]) (all2_le_refl _) trivial rfl trivial trivial (fun _ => AV.le_refl _) (fun _ => rfl) ?_
    rintro ⟨b4, b5⟩ _
    obtain ⟨e2, hx19, h⟩ := obind h
    conv => whnf
    refine SeqG.mk Unit (fun y => [(8, .ptr 200019 b4 0), (9, .d (I e2))]) (fun y => [(200019, .cells b4 [.d (I rb2), .d (I rc2), .d (I rd2), .d (I re2), .d (I rf2), .d (.list 1 (List.map I rg2)), .d (.list 6 (List.map RateSheet.enc rh2)), .d (.list 1 (List.map I ri2)), .mp 200017 b5]), (200017, .map b5 (List.map (fun p => (.agg [I p.1.fBowler, I p.1.fWeek], .agg [I p.2.fNumber, I p.2.fBowler, I p.2.fWeek, I p.2.fGames.a0, I p.2.fGames.a1, I p.2.fGames.a2])) rj2))]) (fun _ => True) ?_ ?_
    · obtain ⟨v4, hx22, hx19⟩ := obind hx19
      conv => whnf
      refine SeqG.mk Unit (fun y => [(8, .ptr 200019 b4 0), (9, .d (I ra2)), (27, .d (.bool v4))]) (fun y => [(200019, .cells b4 [.d (I rb2), .d (I rc2), .d (I rd2), .d (I re2), .d (I rf2), .d (.list 1 (List.map I rg2)), .d (.list 6 (List.map RateSheet.enc rh2)), .d (.list 1 (List.map I ri2)), .mp 200017 b5]), (200017, .map b5 (List.map (fun p => (.agg [I p.1.fBowler, I p.1.fWeek], .agg [I p.2.fNumber, I p.2.fBowler, I p.2.fWeek, I p.2.fGames.a0, I p.2.fGames.a1, I p.2.fGames.a2])) rj2))]) (fun _ => True) ?_ ?_
      · conv => whnf
        refine Br.mk (fun hc18 => ?_) (fun hc18 => ?_)
        · replace hx22 := ite_t hc18 hx22
          obtain ⟨r17, hx23, hx22⟩ := obind hx22
          conv => whnf
          refine CallG.pure _ (rateBookBowlerC hN hx23) ?_
          conv => whnf
          refine Br.mk (fun hc19 => ?_) (fun hc19 => ?_)
          · replace hx22 := ite_f hc19 hx22
            obtain ⟨r18, hx24, hx22⟩ := obind hx22
            conv => whnf
            refine CallG.pure _ (rateWeekC hN hx24) ?_
            cases hx22
            conv => whnf
            refine ⟨(), trivial, Sub.eq rfl ?_ ?_⟩
            · repeat ((conv => whnf); refine Need.mk rfl ?_)
              exact trivial
            · conv => whnf
              refine Need.mk (OLe.refl _) ?_
              conv => whnf
              refine Need.mk (OLe.refl _) ?_
              exact trivial
          · replace hx22 := ite_t hc19 hx22
            cases hx22
            conv => whnf
            refine ⟨(), trivial, Sub.eq rfl ?_ ?_⟩
            · repeat ((conv => whnf); refine Need.mk rfl ?_)
              exact trivial
            · conv => whnf
              refine Need.mk (OLe.refl _) ?_
              conv => whnf
              refine Need.mk (OLe.refl _) ?_
              exact trivial
        · replace hx22 := ite_f hc18 hx22
          cases hx22
          conv => whnf
          refine ⟨(), trivial, Sub.eq rfl ?_ ?_⟩
          · repeat ((conv => whnf); refine Need.mk rfl ?_)
            exact trivial
          · conv => whnf
            refine Need.mk (OLe.refl _) ?_
            conv => whnf
            refine Need.mk (OLe.refl _) ?_
            exact trivial
      · rintro _ _
        conv => whnf
        refine Br.mk (fun hc20 => ?_) (fun hc20 => ?_)
        · replace hx19 := ite_t hc20 hx19
          cases hx19
          conv => whnf
          refine ⟨(), trivial, Sub.eq rfl ?_ ?_⟩
          · repeat ((conv => whnf); refine Need.mk rfl ?_)
            exact trivial
          · conv => whnf
            refine Need.mk (OLe.refl _) ?_
            conv => whnf
            refine Need.mk (OLe.refl _) ?_
            exact trivial
        · replace hx19 := ite_f hc20 hx19
          cases hx19
          conv => whnf
          refine ⟨(), trivial, Sub.eq rfl ?_ ?_⟩
          · repeat ((conv => whnf); refine Need.mk rfl ?_)
            exact trivial
          · conv => whnf
            refine Need.mk (OLe.refl _) ?_
            conv => whnf
            refine Need.mk (OLe.refl _) ?_
            exact trivial
    · rintro _ _
      conv => whnf
      cases h
      exact ⟨_, ⟨(b4, b5), trivial, rfl, rfl⟩, inO_at (ren := id) (And.intro rfl (And.intro rfl trivial))⟩

theorem rateSumC {N : Nat} (hN : N ≤ 1073741824) {l1 : List Int} {r : Int} (h : rateSum N l1 = some r) :
    ACalls Try.prog 42 [.d (.list 1 (List.map I l1))] [] fun e os => e = .ret (.d (I r)) ∧ os = [] := by
  refine acalls_f (fresh := false) tt_ok dr_ok ⟨[], [], [], [], [1001], 0⟩ Try.func42 rfl Try.call42 rfl ?_
  unfold rateSum at h
  obtain ⟨n6, hx13, h⟩ := obind h
  conv => whnf
  refine SeqG.mk Unit (fun y => [(2, .d (I n6))]) (fun y => []) (fun _ => True) ?_ ?_
  · conv => whnf
    refine Ln.mk _ (List.length_map _) ?_
    conv => whnf
    refine LoopG.mk (Nat × (Int × Int × Int)) (fun y => [(2, .d (I y.2.1)), (5, .d (.list 1 (List.map I l1))), (6, .d (I y.2.2.1)), (7, .d (I y.2.2.2))]) (fun y => []) (fun y => loopN (fun rr x => rateSum_b1 N l1 rr x.1 x.2.1 x.2.2) y.1 y.2 = some n6) (fun y => y.1) (N, (0, (l1.length : Int), 0)) hx13 (Sub.eq rfl ?_ ?_) ?_
    · repeat ((conv => whnf); refine Need.mk rfl ?_)
      exact trivial
    · exact trivial
    · rintro ⟨n11, ⟨n10, v17, v18⟩⟩ hl2
      obtain ⟨n11, rfl, hl2⟩ := loopN_some hl2
      replace hl2 : rateSum_b1 N l1 (loopN (fun rr x => rateSum_b1 N l1 rr x.1 x.2.1 x.2.2) n11) n10 v17 v18 = some n6 := hl2
      rw [rateSum_b1] at hl2
      conv => whnf
      refine Br.mk (fun hc12 => ?_) (fun hc12 => ?_)
      · replace hl2 := ite_t hc12 hl2
        obtain ⟨x24, hx25, hl2⟩ := obind hl2
        conv => whnf
        refine Side.mk rfl ⟨_, idx_0 hx25, idx_map _ hx25, ?_⟩
        conv => whnf
        refine ⟨(n11, (w64 (n10 + x24), v17, w64 (v18 + 1))), hl2, Sub.eq rfl ?_ ?_, Nat.lt_succ_self _⟩
        · repeat ((conv => whnf); refine Need.mk rfl ?_)
          exact trivial
        · exact trivial
      · replace hl2 := ite_f hc12 hl2
        cases hl2
        conv => whnf
        refine ⟨(), trivial, Sub.eq rfl ?_ ?_⟩
        · repeat ((conv => whnf); refine Need.mk rfl ?_)
          exact trivial
        · exact trivial
  · rintro _ _
    conv => whnf
    cases h
    exact rfl

theorem rateReadCountingC {N : Nat} (hN : N ≤ 1073741824) {bowler1 : Int} {before1 : Int} {c1 : Int} {c2 : Int} {c3 : Int} {c4 : Int} {c5 : Int} {c6 : List Int} {c7 : List RateSheet} {c8 : List Int} {m1 : List (RateTurn × RateSheet)} {bo1 : Nat} {bo2 : Nat} {r : Int × Int} (h : rateReadCounting N bowler1 before1 c1 c2 c3 c4 c5 c6 c7 c8 m1 = some r) :
    ACalls Try.prog 43 [.ptr 200019 bo1 0, .d (I bowler1), .d (I before1)] [(200019, .cells bo1 [.d (I c1), .d (I c2), .d (I c3), .d (I c4), .d (I c5), .d (.list 1 (List.map I c6)), .d (.list 6 (List.map RateSheet.enc c7)), .d (.list 1 (List.map I c8)), .mp 200017 bo2]), (200017, .map bo2 (List.map (fun p => (.agg [I p.1.fBowler, I p.1.fWeek], .agg [I p.2.fNumber, I p.2.fBowler, I p.2.fWeek, I p.2.fGames.a0, I p.2.fGames.a1, I p.2.fGames.a2])) m1))] fun ae os => ∃ y : Nat, True ∧ ae = .ret (.fn (.func 49) [] [.d (.ref (.agg [I r.1])), .ptr 1220003 y 0, .d (.ref (.agg [I r.2]))]) ∧ os = [(200019, .cells bo1 [.d (I c1), .d (I c2), .d (I c3), .d (I c4), .d (I c5), .d (.list 1 (List.map I c6)), .d (.list 6 (List.map RateSheet.enc c7)), .d (.list 1 (List.map I c8)), .mp 200017 bo2]), (200017, .map bo2 (List.map (fun p => (.agg [I p.1.fBowler, I p.1.fWeek], .agg [I p.2.fNumber, I p.2.fBowler, I p.2.fWeek, I p.2.fGames.a0, I p.2.fGames.a1, I p.2.fGames.a2])) m1)), (1220003, .cells y [.ptr 200019 bo1 0])] := by
  refine acalls_own tt_ok dr_ok ⟨[4, 5], [], [], [], [], 1220000⟩ Try.func43 rfl Try.call43 rfl ?_
  unfold rateReadCounting at h
  conv => whnf
  intro b2
  conv => whnf
  cases h
  exact ⟨b2, trivial, rfl, inO_at (ren := id) (And.intro rfl (And.intro rfl (And.intro rfl trivial)))⟩

theorem rateReadAverageC {N : Nat} (hN : N ≤ 1073741824) {bowler1 : Int} {before1 : Int} {besides1 : List Int} {c1 : Int} {c2 : Int} {c3 : Int} {c4 : Int} {c5 : Int} {c6 : List Int} {c7 : List RateSheet} {c8 : List Int} {m1 : List (RateTurn × RateSheet)} {bo1 : Nat} {bo2 : Nat} {r : Int} (h : rateReadAverage N bowler1 before1 besides1 c1 c2 c3 c4 c5 c6 c7 c8 m1 = some r) :
    ACalls Try.prog 25 [.ptr 200019 bo1 0, .d (I bowler1), .d (I before1), .d (.list 1 (List.map I besides1))] [(200019, .cells bo1 [.d (I c1), .d (I c2), .d (I c3), .d (I c4), .d (I c5), .d (.list 1 (List.map I c6)), .d (.list 6 (List.map RateSheet.enc c7)), .d (.list 1 (List.map I c8)), .mp 200017 bo2]), (200017, .map bo2 (List.map (fun p => (.agg [I p.1.fBowler, I p.1.fWeek], .agg [I p.2.fNumber, I p.2.fBowler, I p.2.fWeek, I p.2.fGames.a0, I p.2.fGames.a1, I p.2.fGames.a2])) m1))] fun ae os => ∃ y : Unit, True ∧ ae = .ret (.d (I r)) ∧ os = [(200019, .cells bo1 [.d (I c1), .d (I c2), .d (I c3), .d (I c4), .d (I c5), .d (.list 1 (List.map I c6)), .d (.list 6 (List.map RateSheet.enc c7)), .d (.list 1 (List.map I c8)), .mp 200017 bo2]), (200017, .map bo2 (List.map (fun p => (.agg [I p.1.fBowler, I p.1.fWeek], .agg [I p.2.fNumber, I p.2.fBowler, I p.2.fWeek, I p.2.fGames.a0, I p.2.fGames.a1, I p.2.fGames.a2])) m1))] := by
  refine acalls_own tt_ok dr_ok ⟨[], [], [], [], [1002], 210000⟩ Try.func25 rfl Try.call25 rfl ?_
  unfold rateReadAverage at h
  conv => whnf
  refine Ln.mk _ (List.length_map _) ?_
  obtain ⟨r2, hx2, h⟩ := obind h
  conv => whnf
  refine CallG.pure _ (rateSumC hN hx2) ?_
  conv => whnf
  intro b3
  conv => whnf
  intro b4
  conv => whnf
  refine Side.mk rfl ?_
  conv => whnf
  refine Side.mk rfl ?_
  obtain ⟨⟨c36, c37⟩, hx53, h⟩ := obind h
  conv => whnf
  refine SeqG.mk Unit (fun y => [(0, .ptr 200019 bo1 0), (1, .d (I bowler1)), (9, .ptr 210009 b3 0), (10, .ptr 210010 b4 0)]) (fun y => [(200019, .cells bo1 [.d (I c1), .d (I c2), .d (I c3), .d (I c4), .d (I c5), .d (.list 1 (List.map I c6)), .d (.list 6 (List.map RateSheet.enc c7)), .d (.list 1 (List.map I c8)), .mp 200017 bo2]), (210009, .cells b3 [.d (I c36)]), (210010, .cells b4 [.d (I c37)]), (200017, .map bo2 (List.map (fun p => (.agg [I p.1.fBowler, I p.1.fWeek], .agg [I p.2.fNumber, I p.2.fBowler, I p.2.fWeek, I p.2.fGames.a0, I p.2.fGames.a1, I p.2.fGames.a2])) m1))]) (fun _ => True) ?_ ?_
  · obtain ⟨⟨ra4, rb4⟩, hx55, hx53⟩ := obind hx53
    conv => whnf
    refine CallG.own (rateReadCountingC (bo1 := bo1) (bo2 := bo2) hN hx55) id [(210009, .cells b3 [.d (I (besides1.length : Int))]), (210010, .cells b4 [.d (I r2)])] _ (fun y => [(200019, .cells bo1 [.d (I c1), .d (I c2), .d (I c3), .d (I c4), .d (I c5), .d (.list 1 (List.map I c6)), .d (.list 6 (List.map RateSheet.enc c7)), .d (.list 1 (List.map I c8)), .mp 200017 bo2]), (200017, .map bo2 (List.map (fun p => (.agg [I p.1.fBowler, I p.1.fWeek], .agg [I p.2.fNumber, I p.2.fBowler, I p.2.fWeek, I p.2.fGames.a0, I p.2.fGames.a1, I p.2.fGames.a2])) m1)), (1220003, .cells y [.ptr 200019 bo1 0]), (210009, .cells b3 [.d (I (besides1.length : Int))]), (210010, .cells b4 [.d (I r2)])]) (all2_le_refl _) (And.intro rfl (And.intro rfl trivial)) rfl (And.intro rfl (And.intro rfl trivial)) (And.intro rfl (And.intro rfl trivial)) (fun _ => AV.le_refl _) (fun _ => rfl) ?_
    rintro b68 _
    conv => whnf
    intro lp2 rc2
    refine IterG.mk _ _ ⟨[], [], [], [], [3, 4], 2000⟩ Try.func49 rfl Try.call49 rfl rfl ?_
    conv => whnf
    refine LoopG.mk (Nat × (Int × Int × Int)) (fun y => [(0, .fn (.yield lp2) [] []), (2, .ptr 1220003 b68 0), (3, .d (.ref (.agg [I rb4]))), (8, .d (I ra4)), (9, .d (I y.2.1))]) (fun y => [(1220003, .cells b68 [.ptr 200019 bo1 0]), (200019, .cells bo1 [.d (I c1), .d (I c2), .d (I c3), .d (I c4), .d (I c5), .d (.list 1 (List.map I c6)), .d (.list 6 (List.map RateSheet.enc c7)), .d (.list 1 (List.map I c8)), .mp 200017 bo2]), (210009, .cells b3 [.d (I y.2.2.1)]), (210010, .cells b4 [.d (I y.2.2.2)]), (1000, .loop lp2 rc2 none), (200017, .map bo2 (List.map (fun p => (.agg [I p.1.fBowler, I p.1.fWeek], .agg [I p.2.fNumber, I p.2.fBowler, I p.2.fWeek, I p.2.fGames.a0, I p.2.fGames.a1, I p.2.fGames.a2])) m1))]) (fun y => loopN (fun rr x => rateReadAverage_b1 N m1 ra4 rb4 rr x.1 x.2.1 x.2.2) y.1 y.2 = some (c36, c37)) (fun y => y.1) (N, (0, (besides1.length : Int), r2)) hx53 (Sub.eq rfl ?_ ?_) ?_
    · repeat ((conv => whnf); refine Need.mk rfl ?_)
      exact trivial
    · conv => whnf
      refine Need.mk (OLe.refl _) ?_
      conv => whnf
      refine Need.mk (OLe.refl _) ?_
      conv => whnf
      refine Need.mk (OLe.refl _) ?_
      conv => whnf
      refine Need.mk (OLe.refl _) ?_
      conv => whnf
      refine Need.mk (OLe.refl _) ?_
      conv => whnf
      refine Need.mk (OLe.refl _) ?_
      exact trivial
    · rintro ⟨n2, ⟨games8, c57, c58⟩⟩ hl2
      obtain ⟨n2, rfl, hl2⟩ := loopN_some hl2
      replace hl2 : rateReadAverage_b1 N m1 ra4 rb4 (loopN (fun rr x => rateReadAverage_b1 N m1 ra4 rb4 rr x.1 x.2.1 x.2.2) n2) games8 c57 c58 = some (c36, c37) := hl2
      rw [rateReadAverage_b1] at hl2
      conv => whnf
      refine Br.mk (fun hc32 => ?_) (fun hc32 => ?_)
      · replace hl2 := ite_t hc32 hl2
        obtain ⟨⟨besides13, c62⟩, hx97, hl2⟩ := obind hl2
        conv => whnf
        refine SeqG.mk Nat (fun y => [(0, .fn (.yield lp2) [] []), (2, .ptr 1220003 b68 0), (3, .d (.ref (.agg [I rb4]))), (6, .ptr 2006 y 0), (7, .d (.bool besides13)), (8, .d (I ra4)), (9, .d (I games8))]) (fun y => [(1220003, .cells b68 [.ptr 200019 bo1 0]), (2006, .cells y [.d (I c62.fNumber), .d (I c62.fBowler), .d (I c62.fWeek), .d (I c62.fGames.a0), .d (I c62.fGames.a1), .d (I c62.fGames.a2)]), (200019, .cells bo1 [.d (I c1), .d (I c2), .d (I c3), .d (I c4), .d (I c5), .d (.list 1 (List.map I c6)), .d (.list 6 (List.map RateSheet.enc c7)), .d (.list 1 (List.map I c8)), .mp 200017 bo2]), (210009, .cells b3 [.d (I c57)]), (210010, .cells b4 [.d (I c58)]), (1000, .loop lp2 rc2 none), (200017, .map bo2 (List.map (fun p => (.agg [I p.1.fBowler, I p.1.fWeek], .agg [I p.2.fNumber, I p.2.fBowler, I p.2.fWeek, I p.2.fGames.a0, I p.2.fGames.a1, I p.2.fGames.a2])) m1))]) (fun _ => True) ?_ ?_
        · obtain ⟨⟨v24, is24⟩, hx98, hx97⟩ := obind hx97
          conv => whnf
          refine DrawG.mk (.take 0 (.take 1 (.take 2 (.take 3 (.take 4 (.take 5 (.alt 6 [3, 2, 1, 0] (.alt 7 [2, 1, 0] (.take 8 (.take 9 (.take 10 (.alt 11 [10, 9, 8, 2, 1, 0] (.alt 12 [10] (.take 13 .done) .nil) .nil)))) (.alt 11 [3, 2, 1, 0] (.alt 7 [2, 1, 0] (.take 8 (.take 9 (.take 10 (.alt 12 [10] (.take 13 .done) .nil)))) .nil) .nil)) (.alt 11 [5, 4, 3, 2, 1, 0] (.alt 6 [3, 2, 1, 0] (.alt 7 [2, 1, 0] (.take 8 (.take 9 (.take 10 (.alt 12 [10] (.take 13 .done) .nil)))) .nil) .nil) .nil)))))))) (by kernel_rfl) ?_
          conv => whnf
          refine Side.mk rfl ?_
          conv => whnf
          refine Side.mk rfl ?_
          conv => whnf
          refine Both.mk ?_ ?_
          · conv => whnf
            refine Side.mk rfl ?_
            conv => whnf
            refine Need.mk (AV.le_refl _) ?_
            conv => whnf
            refine Need.mk (AV.le_refl _) ?_
            conv => whnf
            refine Need.mk (AV.le_refl _) ?_
            conv => whnf
            refine Side.mk rfl ?_
            conv => whnf
            refine Need.mk (AV.le_refl _) ?_
            conv => whnf
            refine Both.mk ?_ ?_
            · conv => whnf
              refine Side.mk rfl (Need.mk rfl (Need.mk (fit_all (fun x : RateTurn => .agg [I x.fBowler, I x.fWeek]) (fun x : RateSheet => .agg [I x.fNumber, I x.fBowler, I x.fWeek, I x.fGames.a0, I x.fGames.a1, I x.fGames.a2]) fun _ => rfl) (LkG.mk (.agg [I v24.fNumber, I v24.fBowler, I v24.fWeek, I v24.fGames.a0, I v24.fGames.a1, I v24.fGames.a2]) is24 (mgt_v (eK := (fun x : RateTurn => .agg [I x.fBowler, I x.fWeek])) (eV := (fun x : RateSheet => .agg [I x.fNumber, I x.fBowler, I x.fWeek, I x.fGames.a0, I x.fGames.a1, I x.fGames.a2])) RateTurn.eqc hx98) (mgt_b (eK := (fun x : RateTurn => .agg [I x.fBowler, I x.fWeek])) (eV := (fun x : RateSheet => .agg [I x.fNumber, I x.fBowler, I x.fWeek, I x.fGames.a0, I x.fGames.a1, I x.fGames.a2])) RateTurn.eqc hx98) ?_)))
              conv => whnf
              refine Need.mk (AV.le_refl _) ?_
              conv => whnf
              refine Need.mk (AV.le_refl _) ?_
              conv => whnf
              refine Side.mk rfl ?_
              conv => whnf
              refine Need.mk (AV.le_refl _) ?_
              conv => whnf
              refine Both.mk ?_ trivial
              conv => whnf
              intro b124
              conv => whnf
              refine Need.mk (AV.le_refl _) ?_
              conv => whnf
              refine Need.mk (AV.le_refl _) ?_
              conv => whnf
              refine Need.mk (AV.le_refl _) ?_
              conv => whnf
              refine Need.mk (AV.le_refl _) ?_
              conv => whnf
              refine Need.mk (AV.le_refl _) ?_
              conv => whnf
              refine Side.mk rfl ?_
              conv => whnf
              refine Need.mk (AV.le_refl _) ?_
              conv => whnf
              refine Both.mk ?_ trivial
              conv => whnf
              refine Side.mk rfl ?_
              conv => whnf
              refine Need.mk (AV.le_refl _) ?_
              cases hx97
              conv => whnf
              refine ⟨b124, trivial, Sub.eq rfl ?_ ?_⟩
              · repeat ((conv => whnf); refine Need.mk rfl ?_)
                exact trivial
              · conv => whnf
                refine Need.mk (OLe.refl _) ?_
                conv => whnf
                refine Need.mk (OLe.refl _) ?_
                conv => whnf
                refine Need.mk (OLe.refl _) ?_
                conv => whnf
                refine Need.mk (OLe.refl _) ?_
                conv => whnf
                refine Need.mk (OLe.refl _) ?_
                conv => whnf
                refine Need.mk (OLe.refl _) ?_
                conv => whnf
                refine Need.mk (OLe.refl _) ?_
                exact trivial
            · conv => whnf
              refine Both.mk ?_ trivial
              conv => whnf
              intro b125
              conv => whnf
              refine Side.mk rfl ?_
              conv => whnf
              refine Need.mk (AV.le_refl _) ?_
              conv => whnf
              refine Need.mk (AV.le_refl _) ?_
              conv => whnf
              refine Need.mk (AV.le_refl _) ?_
              conv => whnf
              refine Side.mk rfl ?_
              conv => whnf
              refine Need.mk (AV.le_refl _) ?_
              conv => whnf
              refine Both.mk ?_ trivial
              conv => whnf
              refine Side.mk rfl (Need.mk rfl (Need.mk (fit_all (fun x : RateTurn => .agg [I x.fBowler, I x.fWeek]) (fun x : RateSheet => .agg [I x.fNumber, I x.fBowler, I x.fWeek, I x.fGames.a0, I x.fGames.a1, I x.fGames.a2]) fun _ => rfl) (LkG.mk (.agg [I v24.fNumber, I v24.fBowler, I v24.fWeek, I v24.fGames.a0, I v24.fGames.a1, I v24.fGames.a2]) is24 (mgt_v (eK := (fun x : RateTurn => .agg [I x.fBowler, I x.fWeek])) (eV := (fun x : RateSheet => .agg [I x.fNumber, I x.fBowler, I x.fWeek, I x.fGames.a0, I x.fGames.a1, I x.fGames.a2])) RateTurn.eqc hx98) (mgt_b (eK := (fun x : RateTurn => .agg [I x.fBowler, I x.fWeek])) (eV := (fun x : RateSheet => .agg [I x.fNumber, I x.fBowler, I x.fWeek, I x.fGames.a0, I x.fGames.a1, I x.fGames.a2])) RateTurn.eqc hx98) ?_)))
              conv => whnf
              refine Need.mk (AV.le_refl _) ?_
              conv => whnf
              refine Need.mk (AV.le_refl _) ?_
              conv => whnf
              refine Side.mk rfl ?_
              conv => whnf
              refine Need.mk (AV.le_refl _) ?_
              conv => whnf
              refine Both.mk ?_ trivial
              conv => whnf
              refine Side.mk rfl ?_
              conv => whnf
              refine Need.mk (AV.le_refl _) ?_
              cases hx97
              conv => whnf
              refine ⟨b125, trivial, Sub.eq rfl ?_ ?_⟩
              · repeat ((conv => whnf); refine Need.mk rfl ?_)
                exact trivial
              · conv => whnf
                refine Need.mk (OLe.refl _) ?_
                conv => whnf
                refine Need.mk (OLe.refl _) ?_
                conv => whnf
                refine Need.mk (OLe.refl _) ?_
                conv => whnf
                refine Need.mk (OLe.refl _) ?_
                conv => whnf
                refine Need.mk (OLe.refl _) ?_
                conv => whnf
                refine Need.mk (OLe.refl _) ?_
                conv => whnf
                refine Need.mk (OLe.refl _) ?_
                exact trivial
          · conv => whnf
            refine Both.mk ?_ trivial
            conv => whnf
            intro b126
            conv => whnf
            refine Need.mk (AV.le_refl _) ?_
            conv => whnf
            refine Need.mk (AV.le_refl _) ?_
            conv => whnf
            refine Side.mk rfl ?_
            conv => whnf
            refine Need.mk (AV.le_refl _) ?_
            conv => whnf
            refine Need.mk (AV.le_refl _) ?_
            conv => whnf
            refine Need.mk (AV.le_refl _) ?_
            conv => whnf
            refine Side.mk rfl ?_
            conv => whnf
            refine Need.mk (AV.le_refl _) ?_
            conv => whnf
            refine Both.mk ?_ trivial
            conv => whnf
            refine Side.mk rfl ?_
            conv => whnf
            refine Need.mk (AV.le_refl _) ?_
            conv => whnf
            refine Need.mk (AV.le_refl _) ?_
            conv => whnf
            refine Need.mk (AV.le_refl _) ?_
            conv => whnf
            refine Side.mk rfl ?_
            conv => whnf
            refine Need.mk (AV.le_refl _) ?_
            conv => whnf
            refine Both.mk ?_ trivial
            conv => whnf
            refine Side.mk rfl (Need.mk rfl (Need.mk (fit_all (fun x : RateTurn => .agg [I x.fBowler, I x.fWeek]) (fun x : RateSheet => .agg [I x.fNumber, I x.fBowler, I x.fWeek, I x.fGames.a0, I x.fGames.a1, I x.fGames.a2]) fun _ => rfl) (LkG.mk (.agg [I v24.fNumber, I v24.fBowler, I v24.fWeek, I v24.fGames.a0, I v24.fGames.a1, I v24.fGames.a2]) is24 (mgt_v (eK := (fun x : RateTurn => .agg [I x.fBowler, I x.fWeek])) (eV := (fun x : RateSheet => .agg [I x.fNumber, I x.fBowler, I x.fWeek, I x.fGames.a0, I x.fGames.a1, I x.fGames.a2])) RateTurn.eqc hx98) (mgt_b (eK := (fun x : RateTurn => .agg [I x.fBowler, I x.fWeek])) (eV := (fun x : RateSheet => .agg [I x.fNumber, I x.fBowler, I x.fWeek, I x.fGames.a0, I x.fGames.a1, I x.fGames.a2])) RateTurn.eqc hx98) ?_)))
            conv => whnf
            refine Need.mk (AV.le_refl _) ?_
            conv => whnf
            refine Need.mk (AV.le_refl _) ?_
            conv => whnf
            refine Side.mk rfl ?_
            conv => whnf
            refine Need.mk (AV.le_refl _) ?_
            conv => whnf
            refine Both.mk ?_ trivial
            conv => whnf
            refine Side.mk rfl ?_
            conv => whnf
            refine Need.mk (AV.le_refl _) ?_
            cases hx97
            conv => whnf
            refine ⟨b126, trivial, Sub.eq rfl ?_ ?_⟩
            · repeat ((conv => whnf); refine Need.mk rfl ?_)
              exact trivial
            · conv => whnf
              refine Need.mk (OLe.refl _) ?_
              conv => whnf
              refine Need.mk (OLe.refl _) ?_
              conv => whnf
              refine Need.mk (OLe.refl _) ?_
              conv => whnf
              refine Need.mk (OLe.refl _) ?_
              conv => whnf
              refine Need.mk (OLe.refl _) ?_
              conv => whnf
              refine Need.mk (OLe.refl _) ?_
              conv => whnf
              refine Need.mk (OLe.refl _) ?_
              exact trivial
        · rintro bb12 _
          obtain ⟨⟨c63, c64⟩, hx101, hl2⟩ := obind hl2
          conv => whnf
          refine SeqG.mk Unit (fun y => [(0, .fn (.yield lp2) [] []), (2, .ptr 1220003 b68 0), (3, .d (.ref (.agg [I rb4]))), (8, .d (I ra4)), (9, .d (I games8)), (29, .b false)]) (fun y => [(1220003, .cells b68 [.ptr 200019 bo1 0]), (200019, .cells bo1 [.d (I c1), .d (I c2), .d (I c3), .d (I c4), .d (I c5), .d (.list 1 (List.map I c6)), .d (.list 6 (List.map RateSheet.enc c7)), .d (.list 1 (List.map I c8)), .mp 200017 bo2]), (210009, .cells b3 [.d (I c63)]), (210010, .cells b4 [.d (I c64)]), (1000, .loop lp2 rc2 none), (200017, .map bo2 (List.map (fun p => (.agg [I p.1.fBowler, I p.1.fWeek], .agg [I p.2.fNumber, I p.2.fBowler, I p.2.fWeek, I p.2.fGames.a0, I p.2.fGames.a1, I p.2.fGames.a2])) m1))]) (fun _ => True) ?_ ?_
          · conv => whnf
            refine Br.mk (fun hc36 => ?_) (fun hc36 => ?_)
            · replace hx101 := ite_t hc36 hx101
              conv => whnf
              refine Side.mk rfl ?_
              conv => whnf
              refine Side.mk ⟨rfl, rfl, rfl⟩ ?_
              conv => whnf
              intro b128
              conv => whnf
              refine Side.mk rfl ?_
              obtain ⟨r49, hx102, hx101⟩ := obind hx101
              obtain ⟨r50, hx103, hx101⟩ := obind hx101
              conv => whnf
              refine DrawG.mk (.take 0 (.take 1 (.take 2 (.take 3 (.alt 4 [2, 1, 0] (.alt 5 [2, 1, 0] (.alt 6 [1, 0] (.alt 7 [1, 0] (.alt 8 [] (.alt 9 [] .done .nil) .nil) .nil) .nil) .nil) .nil))))) (by kernel_rfl) ?_
              conv => whnf
              refine Side.mk rfl ?_
              conv => whnf
              refine Side.mk rfl ?_
              conv => whnf
              refine Both.mk ?_ trivial
              conv => whnf
              refine Side.mk rfl (ArrC.mk (List.map I [c62.fGames.a0, c62.fGames.a1, c62.fGames.a2]) rfl rfl (map_cells _ fun _ => rfl) ?_)
              conv => whnf
              refine Side.mk rfl ?_
              conv => whnf
              refine Need.mk (AV.le_refl _) ?_
              conv => whnf
              refine Need.mk (AV.le_refl _) ?_
              conv => whnf
              refine Side.mk rfl ?_
              conv => whnf
              refine Need.mk (AV.le_refl _) ?_
              conv => whnf
              refine Both.mk ?_ trivial
              conv => whnf
              refine CallG.pure _ (rateSumC hN hx102) ?_
              conv => whnf
              refine Side.mk rfl ?_
              conv => whnf
              refine Need.mk (AV.le_refl _) ?_
              conv => whnf
              refine Need.mk (AV.le_refl _) ?_
              conv => whnf
              refine Side.mk rfl ?_
              conv => whnf
              refine Need.mk (AV.le_refl _) ?_
              conv => whnf
              refine Both.mk ?_ trivial
              conv => whnf
              intro hd48
              conv => whnf
              refine Need.mk (AV.le_refl _) ?_
              conv => whnf
              refine Side.mk rfl ?_
              conv => whnf
              refine Need.mk (AV.le_refl _) ?_
              conv => whnf
              refine Both.mk ?_ trivial
              conv => whnf
              refine Side.mk rfl ?_
              conv => whnf
              refine CallG.pure _ (rateSumC hN hx103) ?_
              conv => whnf
              refine Need.mk (AV.le_refl _) ?_
              conv => whnf
              refine Side.mk rfl ?_
              conv => whnf
              refine Need.mk (AV.le_refl _) ?_
              conv => whnf
              refine Both.mk ?_ trivial
              conv => whnf
              refine Side.mk rfl ?_
              conv => whnf
              refine Both.mk ?_ trivial
              conv => whnf
              refine Side.mk rfl ?_
              cases hx101
              conv => whnf
              refine ⟨(), trivial, Sub.eq rfl ?_ ?_⟩
              · repeat ((conv => whnf); refine Need.mk rfl ?_)
                exact trivial
              · conv => whnf
                refine Need.mk (OLe.refl _) ?_
                conv => whnf
                refine Need.mk (OLe.refl _) ?_
                conv => whnf
                refine Need.mk (OLe.refl _) ?_
                conv => whnf
                refine Need.mk (OLe.refl _) ?_
                conv => whnf
                refine Need.mk (OLe.refl _) ?_
                conv => whnf
                refine Need.mk (OLe.refl _) ?_
                exact trivial
            · replace hx101 := ite_f hc36 hx101
              cases hx101
              conv => whnf
              refine ⟨(), trivial, Sub.eq rfl ?_ ?_⟩
              · repeat ((conv => whnf); refine Need.mk rfl ?_)
                exact trivial
              · conv => whnf
                refine Need.mk (OLe.refl _) ?_
                conv => whnf
                refine Need.mk (OLe.refl _) ?_
                conv => whnf
                refine Need.mk (OLe.refl _) ?_
                conv => whnf
                refine Need.mk (OLe.refl _) ?_
                conv => whnf
                refine Need.mk (OLe.refl _) ?_
                conv => whnf
                refine Need.mk (OLe.refl _) ?_
                exact trivial
          · rintro _ _
            conv => whnf
            refine ⟨(n2, (w64 (games8 + 1), c63, c64)), hl2, Sub.eq rfl ?_ ?_, Nat.lt_succ_self _⟩
            · repeat ((conv => whnf); refine Need.mk rfl ?_)
              exact trivial
            · conv => whnf
              refine Need.mk (OLe.refl _) ?_
              conv => whnf
              refine Need.mk (OLe.refl _) ?_
              conv => whnf
              refine Need.mk (OLe.refl _) ?_
              conv => whnf
              refine Need.mk (OLe.refl _) ?_
              conv => whnf
              refine Need.mk (OLe.refl _) ?_
              conv => whnf
              refine Need.mk (OLe.refl _) ?_
              exact trivial
      · replace hl2 := ite_f hc32 hl2
        conv => whnf
        refine Side.mk ⟨rfl, rfl⟩ ?_
        cases hl2
        conv => whnf
        refine ⟨(), trivial, Sub.eq rfl ?_ ?_⟩
        · repeat ((conv => whnf); refine Need.mk rfl ?_)
          exact trivial
        · conv => whnf
          refine Need.mk (OLe.refl _) ?_
          conv => whnf
          refine Need.mk (OLe.refl _) ?_
          conv => whnf
          refine Need.mk (OLe.refl _) ?_
          conv => whnf
          refine Need.mk (OLe.refl _) ?_
          exact trivial
  · rintro _ _
    conv => whnf
    refine DrawG.mk (.take 0 (.take 1 (.take 2 (.take 3 (.take 4 (.take 5 (.take 6 (.take 7 .done)))))))) (by kernel_rfl) ?_
    conv => whnf
    refine Side.mk rfl ?_
    conv => whnf
    refine Side.mk rfl ?_
    conv => whnf
    refine Br.mk (fun hc38 => ?_) (fun hc38 => ?_)
    · replace h := ite_t hc38 h
      conv => whnf
      refine Side.mk rfl ?_
      obtain ⟨x4, hx107, h⟩ := obind h
      conv => whnf
      refine Side.mk rfl ⟨_, idx_0 hx107, idx_map _ hx107, ?_⟩
      conv => whnf
      cases h
      exact ⟨(), trivial, rfl, inO_at (ren := id) (And.intro rfl (And.intro rfl trivial))⟩
    · replace h := ite_f hc38 h
      conv => whnf
      refine Side.mk rfl ?_
      conv => whnf
      refine Side.mk rfl ?_
      obtain ⟨_, hx109, h⟩ := obind h
      conv => whnf
      refine Need.mk (nz_ne hx109) ?_
      conv => whnf
      cases h
      exact ⟨(), trivial, rfl, inO_at (ren := id) (And.intro rfl (And.intro rfl trivial))⟩

theorem rateAverageC {N : Nat} (hN : N ≤ 1073741824) {b1 : RateBook} {bowler1 : Int} {week1 : Int} {r : Int × Int} (h : rateAverage N b1 bowler1 week1 = some r) :
    ACalls Try.prog 11 [.d (.agg [I b1.fLaw.fBase, I b1.fLaw.fPercent, I b1.fLaw.fCap, I b1.fLaw.fLeast, I b1.fLaw.fBlind, .list 1 (List.map I b1.fBowlers), .list 6 (List.map RateSheet.enc b1.fSheets), .list 1 (List.map I b1.fWithdrawn)]), .d (I bowler1), .d (I week1)] [] fun e os => e = .ret (.d (.tup [I r.1, I r.2])) ∧ os = [] := by
  refine acalls_f (fresh := false) tt_ok dr_ok ⟨[3], [], [], [], [], 0⟩ Try.func11 rfl Try.call11 rfl ?_
  unfold rateAverage at h
  obtain ⟨z2, hx2, h⟩ := obind h
  rcases z2 with r2 | ⟨ra2, rb2, rc2, rd2, re2, rf2, rg2, rh2, ri2, rj2⟩
  · conv => whnf
    refine CallG.own (rateBookAskedC hN hx2) id [] _ (fun y => []) (all2_le_refl _) trivial rfl trivial trivial (fun _ => AV.le_refl _) (fun _ => rfl) ?_
    rintro _ _
    conv => whnf
    refine Br.mk (fun hc2 => ?_) (fun hc2 => ?_)
    · replace h := ite_t hc2 h
      conv => whnf
      cases h
      exact rfl
    · replace h := ite_f hc2 h
      cases h
  · conv => whnf
    refine CallG.own (rateBookAskedC hN hx2) id [] _ (fun y => [(200019, .cells y.1 [.d (I rb2), .d (I rc2), .d (I rd2), .d (I re2), .d (I rf2), .d (.list 1 (List.map I rg2)), .d (.list 6 (List.map RateSheet.enc rh2)), .d (.list 1 (List.map I ri2)), .mp 200017 y.2]), (200017, .map y.2 (List.map (fun p => (.agg [I p.1.fBowler, I p.1.fWeek], .agg [I p.2.fNumber, I p.2.fBowler, I p.2.fWeek, I p.2.fGames.a0, I p.2.fGames.a1, I p.2.fGames.a2])) rj2))]) (all2_le_refl _) trivial rfl trivial trivial (fun _ => AV.le_refl _) (fun _ => rfl) ?_
    rintro ⟨b4, b5⟩ _
    conv => whnf
    refine Br.mk (fun hc4 => ?_) (fun hc4 => ?_)
    · replace h := ite_t hc4 h
      conv => whnf
      cases h
      exact rfl
    · replace h := ite_f hc4 h
      obtain ⟨r4, hx4, h⟩ := obind h
      conv => whnf
      refine CallG.own (rateReadAverageC (bo1 := b4) (bo2 := b5) hN hx4) id [] _ (fun y => [(200019, .cells b4 [.d (I rb2), .d (I rc2), .d (I rd2), .d (I re2), .d (I rf2), .d (.list 1 (List.map I rg2)), .d (.list 6 (List.map RateSheet.enc rh2)), .d (.list 1 (List.map I ri2)), .mp 200017 b5]), (200017, .map b5 (List.map (fun p => (.agg [I p.1.fBowler, I p.1.fWeek], .agg [I p.2.fNumber, I p.2.fBowler, I p.2.fWeek, I p.2.fGames.a0, I p.2.fGames.a1, I p.2.fGames.a2])) rj2))]) (all2_le_refl _) (And.intro rfl (And.intro rfl trivial)) rfl (And.intro rfl (And.intro rfl trivial)) trivial (fun _ => AV.le_refl _) (fun _ => rfl) ?_
      rintro _ _
      conv => whnf
      cases h
      exact rfl

theorem kingpintopRatedC {N : Nat} (hN : N ≤ 1073741824)  {r : Bool} (h : kingpintopRated N = some r) :
    ACalls Try.prog 5 [] [] fun e os => e = .ret (.d (.bool r)) ∧ os = [] := by
  refine acalls_f (fresh := false) tt_ok dr_ok ⟨[], [], [], [], [3], 0⟩ Try.func5 rfl Try.call5 rfl ?_
  unfold kingpintopRated at h
  conv => whnf
  intro hd2
  obtain ⟨⟨ra2, rb2⟩, hx2, h⟩ := obind h
  conv => whnf
  refine Side.mk rfl ?_
  conv => whnf
  refine CallG.pure _ (frameSpanC hN hx2) ?_
  conv => whnf
  intro b2
  conv => whnf
  refine Side.mk rfl ?_
  conv => whnf
  intro hd4
  conv => whnf
  refine Side.mk rfl ?_
  obtain ⟨⟨ra4, rb4⟩, hx4, h⟩ := obind h
  conv => whnf
  refine CallG.pure _ (rateAverageC hN hx4) ?_
  obtain ⟨v1, hx5, h⟩ := obind h
  conv => whnf
  refine SeqG.mk Unit (fun y => [(0, .d (.bool v1))]) (fun y => []) (fun _ => True) ?_ ?_
  · conv => whnf
    refine Br.mk (fun hc4 => ?_) (fun hc4 => ?_)
    · replace hx5 := ite_t hc4 hx5
      conv => whnf
      refine Side.mk rfl ?_
      conv => whnf
      refine Need.mk ⟨rfl, rfl⟩ (EqB.mk _ (FrameRange.eqc ra2 (FrameRange.mk 5 20)) ?_)
      conv => whnf
      refine Br.mk (fun hc5 => ?_) (fun hc5 => ?_)
      · replace hx5 := ite_t hc5 hx5
        conv => whnf
        refine Br.mk (fun hc6 => ?_) (fun hc6 => ?_)
        · replace hx5 := ite_t hc6 hx5
          cases hx5
          conv => whnf
          refine ⟨(), trivial, Sub.eq rfl ?_ ?_⟩
          · repeat ((conv => whnf); refine Need.mk rfl ?_)
            exact trivial
          · exact trivial
        · replace hx5 := ite_f hc6 hx5
          cases hx5
          conv => whnf
          refine ⟨(), trivial, Sub.eq rfl ?_ ?_⟩
          · repeat ((conv => whnf); refine Need.mk rfl ?_)
            exact trivial
          · exact trivial
      · replace hx5 := ite_f hc5 hx5
        cases hx5
        conv => whnf
        refine ⟨(), trivial, Sub.eq rfl ?_ ?_⟩
        · repeat ((conv => whnf); refine Need.mk rfl ?_)
          exact trivial
        · exact trivial
    · replace hx5 := ite_f hc4 hx5
      cases hx5
      conv => whnf
      refine ⟨(), trivial, Sub.eq rfl ?_ ?_⟩
      · repeat ((conv => whnf); refine Need.mk rfl ?_)
        exact trivial
      · exact trivial
  · rintro _ _
    conv => whnf
    cases h
    exact rfl

theorem ref01BeginC {N : Nat} (hN : N ≤ 1073741824) {l1 : Ref01Law} {r : Ref01Stand} (h : ref01Begin N l1 = some r) :
    ACalls Try.prog 27 [.d (.agg [I l1.fFrames, I l1.fPins, I l1.fBalls, I l1.fTap])] [] fun e os => e = .ret (.d (.agg [I r.fFrame, I r.fThrown, I r.fStanding, .bool r.fSet, I r.fHas])) ∧ os = [] := by
  refine acalls_f (fresh := false) tt_ok dr_ok ⟨[1], [], [], [], [], 0⟩ Try.func27 rfl Try.call27 rfl ?_
  unfold ref01Begin at h
  conv => whnf
  intro b2
  conv => whnf
  refine Side.mk rfl ?_
  conv => whnf
  refine Side.mk rfl ?_
  conv => whnf
  cases h
  exact rfl

theorem ref01FitsC {N : Nat} (hN : N ≤ 1073741824) {l1 : Ref01Law} {s1 : Ref01Stand} {ball1 : Int} {r : Bool} (h : ref01Fits N l1 s1 ball1 = some r) :
    ACalls Try.prog 28 [.d (.agg [I l1.fFrames, I l1.fPins, I l1.fBalls, I l1.fTap]), .d (.agg [I s1.fFrame, I s1.fThrown, I s1.fStanding, .bool s1.fSet, I s1.fHas]), .d (I ball1)] [] fun e os => e = .ret (.d (.bool r)) ∧ os = [] := by
  refine acalls_f (fresh := false) tt_ok dr_ok ⟨[3, 4], [], [], [], [1], 0⟩ Try.func28 rfl Try.call28 rfl ?_
  unfold ref01Fits at h
  obtain ⟨v1, hx2, h⟩ := obind h
  conv => whnf
  refine SeqG.mk Unit (fun y => [(6, .d (.bool v1))]) (fun y => []) (fun _ => True) ?_ ?_
  · conv => whnf
    refine Br.mk (fun hc2 => ?_) (fun hc2 => ?_)
    · replace hx2 := ite_t hc2 hx2
      obtain ⟨r2, hx3, hx2⟩ := obind hx2
      conv => whnf
      refine CallG.pure _ (ref01InC hN hx3) ?_
      cases hx2
      conv => whnf
      refine ⟨(), trivial, Sub.eq rfl ?_ ?_⟩
      · repeat ((conv => whnf); refine Need.mk rfl ?_)
        exact trivial
      · exact trivial
    · replace hx2 := ite_f hc2 hx2
      cases hx2
      conv => whnf
      refine ⟨(), trivial, Sub.eq rfl ?_ ?_⟩
      · repeat ((conv => whnf); refine Need.mk rfl ?_)
        exact trivial
      · exact trivial
  · rintro _ _
    conv => whnf
    cases h
    exact rfl

theorem ref01ThrowC {N : Nat} (hN : N ≤ 1073741824) {a1 : Ref01Law} {a2 : Ref01Stand} {a3 : Int} {r : Ref01Stand × Int} (h : ref01Throw N a1 a2 a3 = some r) :
    ACalls Try.prog 23 [.d (.agg [I a1.fFrames, I a1.fPins, I a1.fBalls, I a1.fTap]), .d (.agg [I a2.fFrame, I a2.fThrown, I a2.fStanding, .bool a2.fSet, I a2.fHas]), .d (I a3)] [] fun e os => e = .ret (.d (.tup [.agg [I r.1.fFrame, I r.1.fThrown, I r.1.fStanding, .bool r.1.fSet, I r.1.fHas], I r.2])) ∧ os = [] := by
  refine acalls_f (fresh := false) tt_ok dr_ok ⟨[3, 4], [], [], [], [4, 11, 14, 1002, 1004, 1011, 1014, 1018], 0⟩ Try.func23 rfl Try.call23 rfl ?_
  unfold ref01Throw at h
  conv => whnf
  intro b2
  obtain ⟨v1, hx1, h⟩ := obind h
  conv => whnf
  refine SeqG.mk Unit (fun y => [(3, .d (.ref (.agg [I a1.fFrames, I a1.fPins, I a1.fBalls, I a1.fTap]))), (4, .d (.ref (.agg [I a2.fFrame, I a2.fThrown, I a2.fStanding, .bool a2.fSet, I a2.fHas]))), (6, .ptr 6 b2 0), (8, .d (I v1))]) (fun y => [(6, .cells b2 [.d (I 0), .d (I 0), .d (I 0), .d (.bool false), .d (I 0)])]) (fun _ => True) ?_ ?_
  · conv => whnf
    refine Br.mk (fun hc2 => ?_) (fun hc2 => ?_)
    · replace hx1 := ite_t hc2 hx1
      cases hx1
      conv => whnf
      refine ⟨(), trivial, Sub.eq rfl ?_ ?_⟩
      · repeat ((conv => whnf); refine Need.mk rfl ?_)
        exact trivial
      · conv => whnf
        refine Need.mk (OLe.refl _) ?_
        exact trivial
    · replace hx1 := ite_f hc2 hx1
      cases hx1
      conv => whnf
      refine ⟨(), trivial, Sub.eq rfl ?_ ?_⟩
      · repeat ((conv => whnf); refine Need.mk rfl ?_)
        exact trivial
      · conv => whnf
        refine Need.mk (OLe.refl _) ?_
        exact trivial
  · rintro _ _
    obtain ⟨v3, hx3, h⟩ := obind h
    conv => whnf
    refine SeqG.mk Unit (fun y => [(3, .d (.ref (.agg [I a1.fFrames, I a1.fPins, I a1.fBalls, I a1.fTap]))), (4, .d (.ref (.agg [I a2.fFrame, I a2.fThrown, I a2.fStanding, .bool a2.fSet, I a2.fHas]))), (6, .ptr 6 b2 0), (8, .d (I v3))]) (fun y => [(6, .cells b2 [.d (I 0), .d (I 0), .d (I 0), .d (.bool false), .d (I 0)])]) (fun _ => True) ?_ ?_
    · obtain ⟨v4, hx4, hx3⟩ := obind hx3
      conv => whnf
      refine SeqG.mk Unit (fun y => [(3, .d (.ref (.agg [I a1.fFrames, I a1.fPins, I a1.fBalls, I a1.fTap]))), (4, .d (.ref (.agg [I a2.fFrame, I a2.fThrown, I a2.fStanding, .bool a2.fSet, I a2.fHas]))), (6, .ptr 6 b2 0), (8, .d (I v1)), (20, .d (.bool v4))]) (fun y => [(6, .cells b2 [.d (I 0), .d (I 0), .d (I 0), .d (.bool false), .d (I 0)])]) (fun _ => True) ?_ ?_
      · conv => whnf
        refine Br.mk (fun hc7 => ?_) (fun hc7 => ?_)
        · replace hx4 := ite_t hc7 hx4
          cases hx4
          conv => whnf
          refine ⟨(), trivial, Sub.eq rfl ?_ ?_⟩
          · repeat ((conv => whnf); refine Need.mk rfl ?_)
            exact trivial
          · conv => whnf
            refine Need.mk (OLe.refl _) ?_
            exact trivial
        · replace hx4 := ite_f hc7 hx4
          cases hx4
          conv => whnf
          refine ⟨(), trivial, Sub.eq rfl ?_ ?_⟩
          · repeat ((conv => whnf); refine Need.mk rfl ?_)
            exact trivial
          · conv => whnf
            refine Need.mk (OLe.refl _) ?_
            exact trivial
      · rintro _ _
        conv => whnf
        refine Br.mk (fun hc8 => ?_) (fun hc8 => ?_)
        · replace hx3 := ite_t hc8 hx3
          cases hx3
          conv => whnf
          refine ⟨(), trivial, Sub.eq rfl ?_ ?_⟩
          · repeat ((conv => whnf); refine Need.mk rfl ?_)
            exact trivial
          · conv => whnf
            refine Need.mk (OLe.refl _) ?_
            exact trivial
        · replace hx3 := ite_f hc8 hx3
          cases hx3
          conv => whnf
          refine ⟨(), trivial, Sub.eq rfl ?_ ?_⟩
          · repeat ((conv => whnf); refine Need.mk rfl ?_)
            exact trivial
          · conv => whnf
            refine Need.mk (OLe.refl _) ?_
            exact trivial
    · rintro _ _
      conv => whnf
      intro b4
      conv => whnf
      refine Side.mk rfl ?_
      conv => whnf
      refine Side.mk rfl ?_
      conv => whnf
      refine Side.mk rfl ?_
      conv => whnf
      refine Side.mk rfl ?_
      conv => whnf
      refine Side.mk rfl ?_
      conv => whnf
      refine Side.mk rfl ?_
      conv => whnf
      refine Br.mk (fun hc16 => ?_) (fun hc16 => ?_)
      · replace h := ite_t hc16 h
        obtain ⟨c5, hx9, h⟩ := obind h
        conv => whnf
        refine SeqG.mk Unit (fun y => [(6, .ptr 6 b2 0), (8, .d (I v3)), (9, .ptr 9 b4 0)]) (fun y => [(6, .cells b2 [.d (I 0), .d (I 0), .d (I 0), .d (.bool false), .d (I 0)]), (9, .cells b4 [.d (I c5.fFrame), .d (I c5.fThrown), .d (I c5.fStanding), .d (.bool c5.fSet), .d (I c5.fHas)])]) (fun _ => True) ?_ ?_
        · obtain ⟨⟨v8, c6⟩, hx10, hx9⟩ := obind hx9
          conv => whnf
          refine SeqG.mk Unit (fun y => [(3, .d (.ref (.agg [I a1.fFrames, I a1.fPins, I a1.fBalls, I a1.fTap]))), (4, .d (.ref (.agg [I a2.fFrame, I a2.fThrown, I a2.fStanding, .bool a2.fSet, I a2.fHas]))), (6, .ptr 6 b2 0), (8, .d (I v3)), (9, .ptr 9 b4 0), (49, .d (.bool v8))]) (fun y => [(6, .cells b2 [.d (I 0), .d (I 0), .d (I 0), .d (.bool false), .d (I 0)]), (9, .cells b4 [.d (I c6.fFrame), .d (I c6.fThrown), .d (I c6.fStanding), .d (.bool c6.fSet), .d (I c6.fHas)])]) (fun _ => True) ?_ ?_
          · conv => whnf
            refine Side.mk rfl ?_
            conv => whnf
            refine Br.mk (fun hc21 => ?_) (fun hc21 => ?_)
            · replace hx10 := ite_f hc21 hx10
              conv => whnf
              refine Side.mk rfl ?_
              cases hx10
              conv => whnf
              refine ⟨(), trivial, Sub.eq rfl ?_ ?_⟩
              · repeat ((conv => whnf); refine Need.mk rfl ?_)
                exact trivial
              · conv => whnf
                refine Need.mk (OLe.refl _) ?_
                conv => whnf
                refine Need.mk (OLe.refl _) ?_
                exact trivial
            · replace hx10 := ite_t hc21 hx10
              cases hx10
              conv => whnf
              refine ⟨(), trivial, Sub.eq rfl ?_ ?_⟩
              · repeat ((conv => whnf); refine Need.mk rfl ?_)
                exact trivial
              · conv => whnf
                refine Need.mk (OLe.refl _) ?_
                conv => whnf
                refine Need.mk (OLe.refl _) ?_
                exact trivial
          · rintro _ _
            conv => whnf
            refine Br.mk (fun hc22 => ?_) (fun hc22 => ?_)
            · replace hx9 := ite_t hc22 hx9
              conv => whnf
              refine Side.mk rfl ?_
              cases hx9
              conv => whnf
              refine ⟨(), trivial, Sub.eq rfl ?_ ?_⟩
              · repeat ((conv => whnf); refine Need.mk rfl ?_)
                exact trivial
              · conv => whnf
                refine Need.mk (OLe.refl _) ?_
                conv => whnf
                refine Need.mk (OLe.refl _) ?_
                exact trivial
            · replace hx9 := ite_f hc22 hx9
              cases hx9
              conv => whnf
              refine ⟨(), trivial, Sub.eq rfl ?_ ?_⟩
              · repeat ((conv => whnf); refine Need.mk rfl ?_)
                exact trivial
              · conv => whnf
                refine Need.mk (OLe.refl _) ?_
                conv => whnf
                refine Need.mk (OLe.refl _) ?_
                exact trivial
        · rintro _ _
          conv => whnf
          refine Side.mk rfl ?_
          conv => whnf
          refine Side.mk rfl ?_
          conv => whnf
          refine Side.mk rfl ?_
          conv => whnf
          cases h
          exact rfl
      · replace h := ite_f hc16 h
        obtain ⟨c8, hx12, h⟩ := obind h
        conv => whnf
        refine SeqG.mk Unit (fun y => [(3, .d (.ref (.agg [I a1.fFrames, I a1.fPins, I a1.fBalls, I a1.fTap]))), (6, .ptr 6 b2 0), (8, .d (I v3)), (9, .ptr 9 b4 0)]) (fun y => [(6, .cells b2 [.d (I 0), .d (I 0), .d (I 0), .d (.bool false), .d (I 0)]), (9, .cells b4 [.d (I c8.fFrame), .d (I c8.fThrown), .d (I c8.fStanding), .d (.bool c8.fSet), .d (I c8.fHas)])]) (fun _ => True) ?_ ?_
        · obtain ⟨⟨v10, c9⟩, hx13, hx12⟩ := obind hx12
          conv => whnf
          refine SeqG.mk Unit (fun y => [(3, .d (.ref (.agg [I a1.fFrames, I a1.fPins, I a1.fBalls, I a1.fTap]))), (6, .ptr 6 b2 0), (8, .d (I v3)), (9, .ptr 9 b4 0), (67, .d (.bool v10))]) (fun y => [(6, .cells b2 [.d (I 0), .d (I 0), .d (I 0), .d (.bool false), .d (I 0)]), (9, .cells b4 [.d (I c9.fFrame), .d (I c9.fThrown), .d (I c9.fStanding), .d (.bool c9.fSet), .d (I c9.fHas)])]) (fun _ => True) ?_ ?_
          · conv => whnf
            refine Side.mk rfl ?_
            conv => whnf
            refine Br.mk (fun hc27 => ?_) (fun hc27 => ?_)
            · replace hx13 := ite_t hc27 hx13
              conv => whnf
              refine Side.mk rfl ?_
              cases hx13
              conv => whnf
              refine ⟨(), trivial, Sub.eq rfl ?_ ?_⟩
              · repeat ((conv => whnf); refine Need.mk rfl ?_)
                exact trivial
              · conv => whnf
                refine Need.mk (OLe.refl _) ?_
                conv => whnf
                refine Need.mk (OLe.refl _) ?_
                exact trivial
            · replace hx13 := ite_f hc27 hx13
              cases hx13
              conv => whnf
              refine ⟨(), trivial, Sub.eq rfl ?_ ?_⟩
              · repeat ((conv => whnf); refine Need.mk rfl ?_)
                exact trivial
              · conv => whnf
                refine Need.mk (OLe.refl _) ?_
                conv => whnf
                refine Need.mk (OLe.refl _) ?_
                exact trivial
          · rintro _ _
            conv => whnf
            refine Br.mk (fun hc28 => ?_) (fun hc28 => ?_)
            · replace hx12 := ite_t hc28 hx12
              conv => whnf
              refine Side.mk rfl ?_
              cases hx12
              conv => whnf
              refine ⟨(), trivial, Sub.eq rfl ?_ ?_⟩
              · repeat ((conv => whnf); refine Need.mk rfl ?_)
                exact trivial
              · conv => whnf
                refine Need.mk (OLe.refl _) ?_
                conv => whnf
                refine Need.mk (OLe.refl _) ?_
                exact trivial
            · replace hx12 := ite_f hc28 hx12
              cases hx12
              conv => whnf
              refine ⟨(), trivial, Sub.eq rfl ?_ ?_⟩
              · repeat ((conv => whnf); refine Need.mk rfl ?_)
                exact trivial
              · conv => whnf
                refine Need.mk (OLe.refl _) ?_
                conv => whnf
                refine Need.mk (OLe.refl _) ?_
                exact trivial
        · rintro _ _
          conv => whnf
          refine Side.mk rfl ?_
          conv => whnf
          refine Side.mk rfl ?_
          conv => whnf
          refine Br.mk (fun hc30 => ?_) (fun hc30 => ?_)
          · replace h := ite_t hc30 h
            conv => whnf
            refine Side.mk rfl ?_
            conv => whnf
            refine Side.mk rfl ?_
            conv => whnf
            cases h
            exact rfl
          · replace h := ite_f hc30 h
            obtain ⟨c10, hx14, h⟩ := obind h
            conv => whnf
            refine SeqG.mk Unit (fun y => [(6, .ptr 6 b2 0), (8, .d (I v3)), (9, .ptr 9 b4 0)]) (fun y => [(6, .cells b2 [.d (I 0), .d (I 0), .d (I 0), .d (.bool false), .d (I 0)]), (9, .cells b4 [.d (I c10.fFrame), .d (I c10.fThrown), .d (I c10.fStanding), .d (.bool c10.fSet), .d (I c10.fHas)])]) (fun _ => True) ?_ ?_
            · conv => whnf
              refine Side.mk rfl ?_
              conv => whnf
              refine Br.mk (fun hc32 => ?_) (fun hc32 => ?_)
              · replace hx14 := ite_t hc32 hx14
                conv => whnf
                refine Side.mk rfl ?_
                conv => whnf
                refine Side.mk rfl ?_
                cases hx14
                conv => whnf
                refine ⟨(), trivial, Sub.eq rfl ?_ ?_⟩
                · repeat ((conv => whnf); refine Need.mk rfl ?_)
                  exact trivial
                · conv => whnf
                  refine Need.mk (OLe.refl _) ?_
                  conv => whnf
                  refine Need.mk (OLe.refl _) ?_
                  exact trivial
              · replace hx14 := ite_f hc32 hx14
                cases hx14
                conv => whnf
                refine ⟨(), trivial, Sub.eq rfl ?_ ?_⟩
                · repeat ((conv => whnf); refine Need.mk rfl ?_)
                  exact trivial
                · conv => whnf
                  refine Need.mk (OLe.refl _) ?_
                  conv => whnf
                  refine Need.mk (OLe.refl _) ?_
                  exact trivial
            · rintro _ _
              conv => whnf
              refine Side.mk rfl ?_
              conv => whnf
              refine Side.mk rfl ?_
              conv => whnf
              refine Side.mk rfl ?_
              conv => whnf
              cases h
              exact rfl

theorem ref01PlayC {N : Nat} (hN : N ≤ 1073741824) {l1 : Ref01Law} {sheet1 : List Int} {r : Ref01Stand × (List Ref01Ball)} (h : ref01Play N l1 sheet1 = some r) :
    ACalls Try.prog 15 [.d (.agg [I l1.fFrames, I l1.fPins, I l1.fBalls, I l1.fTap]), .d (.list 1 (List.map I sheet1))] [] fun e os => e = .ret (.d (.tup [.agg [I r.1.fFrame, I r.1.fThrown, I r.1.fStanding, .bool r.1.fSet, I r.1.fHas], .list 2 (List.map Ref01Ball.enc r.2)])) ∧ os = [] := by
  refine acalls_f (fresh := false) tt_ok dr_ok ⟨[2], [], [], [], [4, 6, 1003], 0⟩ Try.func15 rfl Try.call15 rfl ?_
  unfold ref01Play at h
  conv => whnf
  intro b2
  obtain ⟨r2, hx2, h⟩ := obind h
  conv => whnf
  refine CallG.pure _ (ref01BeginC hN hx2) ?_
  conv => whnf
  intro b4
  conv => whnf
  refine Side.mk rfl ?_
  obtain ⟨⟨s5, l18⟩, hx75, h⟩ := obind h
  conv => whnf
  refine SeqG.mk Value (fun y => [(4, .ptr 4 b2 0), (6, .ptr 6 b4 0), (7, .sl 44 y)]) (fun y => [(4, .cells b2 [.d (I 0), .d (I 0), .d (I 0), .d (.bool false), .d (I 0)]), (6, .cells b4 [.d (I s5.fFrame), .d (I s5.fThrown), .d (I s5.fStanding), .d (.bool s5.fSet), .d (I s5.fHas)]), (44, .arr y 85 2 false (List.map Ref01Ball.enc l18))]) (fun _ => True) ?_ ?_
  · conv => whnf
    refine LoopG.mk (Nat × (Int × Ref01Stand × (List Ref01Ball)) × Value) (fun y => [(1, .d (.list 1 (List.map I sheet1))), (2, .d (.ref (.agg [I l1.fFrames, I l1.fPins, I l1.fBalls, I l1.fTap]))), (4, .ptr 4 b2 0), (6, .ptr 6 b4 0), (7, .sl 44 y.2.2), (8, .d (I y.2.1.1))]) (fun y => [(4, .cells b2 [.d (I 0), .d (I 0), .d (I 0), .d (.bool false), .d (I 0)]), (6, .cells b4 [.d (I y.2.1.2.1.fFrame), .d (I y.2.1.2.1.fThrown), .d (I y.2.1.2.1.fStanding), .d (.bool y.2.1.2.1.fSet), .d (I y.2.1.2.1.fHas)]), (44, .arr y.2.2 85 2 false (List.map Ref01Ball.enc y.2.1.2.2))]) (fun y => loopN (fun rr x => ref01Play_b1 N l1 sheet1 rr x.1 x.2.1 x.2.2) y.1 y.2.1 = some (s5, l18)) (fun y => y.1) (N, (0, r2, []), (.slice none 0 0)) hx75 (Sub.eq rfl ?_ ?_) ?_
    · repeat ((conv => whnf); refine Need.mk rfl ?_)
      exact trivial
    · conv => whnf
      refine Need.mk (OLe.refl _) ?_
      conv => whnf
      refine Need.mk (OLe.refl _) ?_
      conv => whnf
      refine Need.mk (OLe.nil _ _ _ _) ?_
      exact trivial
    · rintro ⟨n12, ⟨i8, s9, l30⟩, hd49⟩ hl2
      obtain ⟨n12, rfl, hl2⟩ := loopN_some hl2
      replace hl2 : ref01Play_b1 N l1 sheet1 (loopN (fun rr x => ref01Play_b1 N l1 sheet1 rr x.1 x.2.1 x.2.2) n12) i8 s9 l30 = some (s5, l18) := hl2
      rw [ref01Play_b1] at hl2
      obtain ⟨v12, hx131, hl2⟩ := obind hl2
      conv => whnf
      refine SeqG.mk Unit (fun y => [(1, .d (.list 1 (List.map I sheet1))), (2, .d (.ref (.agg [I l1.fFrames, I l1.fPins, I l1.fBalls, I l1.fTap]))), (4, .ptr 4 b2 0), (6, .ptr 6 b4 0), (7, .sl 44 hd49), (8, .d (I i8)), (25, .d (.bool v12))]) (fun y => [(4, .cells b2 [.d (I 0), .d (I 0), .d (I 0), .d (.bool false), .d (I 0)]), (6, .cells b4 [.d (I s9.fFrame), .d (I s9.fThrown), .d (I s9.fStanding), .d (.bool s9.fSet), .d (I s9.fHas)]), (44, .arr hd49 85 2 false (List.map Ref01Ball.enc l30))]) (fun _ => True) ?_ ?_
      · conv => whnf
        refine DrawG.mk (.take 0 (.take 1 (.take 2 (.take 3 (.take 4 (.spl 17 (.take 5 (.take 6 (.take 7 (.take 8 (.take 9 (.take 10 (.alt 11 [9, 8, 7, 3, 2, 1, 0] (.take 12 .done) .nil))))))))))))) (by kernel_rfl) ?_
        conv => whnf
        refine Ln.mk _ (List.length_map _) ?_
        conv => whnf
        refine Br.mk (fun hc35 => ?_) (fun hc35 => ?_)
        · replace hx131 := ite_t hc35 hx131
          obtain ⟨x44, hx132, hx131⟩ := obind hx131
          obtain ⟨r26, hx133, hx131⟩ := obind hx131
          conv => whnf
          refine Side.mk rfl ?_
          conv => whnf
          refine Side.mk rfl ⟨_, idx_0 hx132, idx_map _ hx132, ?_⟩
          conv => whnf
          refine Both.mk ?_ trivial
          conv => whnf
          refine CallG.pure _ (ref01FitsC hN hx133) ?_
          conv => whnf
          refine Side.mk rfl ⟨_, idx_0 hx132, idx_map _ hx132, ?_⟩
          conv => whnf
          refine Need.mk (AV.le_refl _) ?_
          conv => whnf
          refine Need.mk (AV.le_refl _) ?_
          conv => whnf
          refine Need.mk (AV.le_refl _) ?_
          conv => whnf
          refine Need.mk (AV.le_refl _) ?_
          conv => whnf
          refine Ln.mk _ (List.length_map _) ?_
          conv => whnf
          refine Need.mk (AV.le_refl _) ?_
          conv => whnf
          refine Need.mk (AV.le_refl _) ?_
          conv => whnf
          refine Need.mk (AV.le_refl _) ?_
          cases hx131
          conv => whnf
          refine ⟨(), trivial, Sub.eq rfl ?_ ?_⟩
          · repeat ((conv => whnf); refine Need.mk rfl ?_)
            exact trivial
          · conv => whnf
            refine Need.mk (OLe.refl _) ?_
            conv => whnf
            refine Need.mk (OLe.refl _) ?_
            conv => whnf
            refine Need.mk (OLe.refl _) ?_
            exact trivial
        · replace hx131 := ite_f hc35 hx131
          conv => whnf
          refine Both.mk ?_ trivial
          conv => whnf
          refine Need.mk rfl ?_
          conv => whnf
          refine Need.mk rfl ?_
          conv => whnf
          refine Need.mk rfl ?_
          conv => whnf
          refine Need.mk (AV.le_refl _) ?_
          conv => whnf
          refine Ln.mk _ (List.length_map _) ?_
          conv => whnf
          refine Need.mk (AV.le_refl _) ?_
          conv => whnf
          refine Need.mk (AV.le_refl _) ?_
          conv => whnf
          refine Need.mk (AV.le_refl _) ?_
          cases hx131
          conv => whnf
          refine ⟨(), trivial, Sub.eq rfl ?_ ?_⟩
          · repeat ((conv => whnf); refine Need.mk rfl ?_)
            exact trivial
          · conv => whnf
            refine Need.mk (OLe.refl _) ?_
            conv => whnf
            refine Need.mk (OLe.refl _) ?_
            conv => whnf
            refine Need.mk (OLe.refl _) ?_
            exact trivial
      · rintro _ _
        conv => whnf
        refine Br.mk (fun hc36 => ?_) (fun hc36 => ?_)
        · replace hl2 := ite_t hc36 hl2
          obtain ⟨⟨n14, next12⟩, hx143, hl2⟩ := obind hl2
          conv => whnf
          refine SeqG.mk Nat (fun y => [(1, .d (.list 1 (List.map I sheet1))), (2, .d (.ref (.agg [I l1.fFrames, I l1.fPins, I l1.fBalls, I l1.fTap]))), (4, .ptr 4 b2 0), (6, .ptr 6 b4 0), (7, .sl 44 hd49), (8, .d (I i8)), (9, .ptr 9 y 0), (10, .d (I n14))]) (fun y => [(4, .cells b2 [.d (I 0), .d (I 0), .d (I 0), .d (.bool false), .d (I 0)]), (6, .cells b4 [.d (I s9.fFrame), .d (I s9.fThrown), .d (I s9.fStanding), .d (.bool s9.fSet), .d (I s9.fHas)]), (44, .arr hd49 85 2 false (List.map Ref01Ball.enc l30)), (9, .cells y [.d (I next12.fFrame), .d (I next12.fThrown), .d (I next12.fStanding), .d (.bool next12.fSet), .d (I next12.fHas)])]) (fun _ => True) ?_ ?_
          · obtain ⟨x48, hx144, hx143⟩ := obind hx143
            obtain ⟨⟨ra24, rb24⟩, hx145, hx143⟩ := obind hx143
            conv => whnf
            refine DrawG.mk (.take 0 (.take 1 (.take 2 (.take 3 (.take 4 (.take 5 (.alt 6 [4, 3, 2] (.take 7 (.take 8 (.take 9 (.alt 10 [9, 8, 7, 4, 3, 2] (.alt 11 [9] (.take 12 .done) .nil) .nil)))) (.alt 10 [5, 4, 3, 2, 1, 0] (.alt 6 [4, 3, 2] (.take 7 (.take 8 (.take 9 (.alt 11 [9] (.take 12 .done) .nil)))) .nil) .nil)))))))) (by kernel_rfl) ?_
            conv => whnf
            refine Side.mk rfl ?_
            conv => whnf
            refine Side.mk rfl ⟨_, idx_0 hx144, idx_map _ hx144, ?_⟩
            conv => whnf
            refine Both.mk ?_ ?_
            · conv => whnf
              refine CallG.pure _ (ref01ThrowC hN hx145) ?_
              conv => whnf
              refine Side.mk rfl ⟨_, idx_0 hx144, idx_map _ hx144, ?_⟩
              conv => whnf
              refine Need.mk (AV.le_refl _) ?_
              conv => whnf
              refine Need.mk (AV.le_refl _) ?_
              conv => whnf
              refine Need.mk (AV.le_refl _) ?_
              conv => whnf
              refine Both.mk ?_ trivial
              conv => whnf
              intro b75
              conv => whnf
              refine Need.mk (AV.le_refl _) ?_
              conv => whnf
              refine Need.mk (AV.le_refl _) ?_
              conv => whnf
              refine Need.mk (AV.le_refl _) ?_
              conv => whnf
              refine Side.mk rfl ⟨_, idx_0 hx144, idx_map _ hx144, ?_⟩
              conv => whnf
              refine Need.mk (AV.le_refl _) ?_
              conv => whnf
              refine Need.mk (AV.le_refl _) ?_
              conv => whnf
              refine Need.mk (AV.le_refl _) ?_
              conv => whnf
              refine Both.mk ?_ trivial
              conv => whnf
              refine Side.mk rfl ?_
              conv => whnf
              refine Need.mk (AV.le_refl _) ?_
              cases hx143
              conv => whnf
              refine ⟨b75, trivial, Sub.eq rfl ?_ ?_⟩
              · repeat ((conv => whnf); refine Need.mk rfl ?_)
                exact trivial
              · conv => whnf
                refine Need.mk (OLe.refl _) ?_
                conv => whnf
                refine Need.mk (OLe.refl _) ?_
                conv => whnf
                refine Need.mk (OLe.refl _) ?_
                conv => whnf
                refine Need.mk (OLe.refl _) ?_
                exact trivial
            · conv => whnf
              refine Both.mk ?_ trivial
              conv => whnf
              intro b76
              conv => whnf
              refine Need.mk (AV.le_refl _) ?_
              conv => whnf
              refine Side.mk rfl ⟨_, idx_0 hx144, idx_map _ hx144, ?_⟩
              conv => whnf
              refine Need.mk (AV.le_refl _) ?_
              conv => whnf
              refine Need.mk (AV.le_refl _) ?_
              conv => whnf
              refine Need.mk (AV.le_refl _) ?_
              conv => whnf
              refine Side.mk rfl ?_
              conv => whnf
              refine Need.mk (AV.le_refl _) ?_
              conv => whnf
              refine Need.mk (AV.le_refl _) ?_
              conv => whnf
              refine Both.mk ?_ trivial
              conv => whnf
              refine CallG.pure _ (ref01ThrowC hN hx145) ?_
              conv => whnf
              refine Side.mk rfl ⟨_, idx_0 hx144, idx_map _ hx144, ?_⟩
              conv => whnf
              refine Need.mk (AV.le_refl _) ?_
              conv => whnf
              refine Need.mk (AV.le_refl _) ?_
              conv => whnf
              refine Need.mk (AV.le_refl _) ?_
              conv => whnf
              refine Both.mk ?_ trivial
              conv => whnf
              refine Side.mk rfl ?_
              conv => whnf
              refine Need.mk (AV.le_refl _) ?_
              cases hx143
              conv => whnf
              refine ⟨b76, trivial, Sub.eq rfl ?_ ?_⟩
              · repeat ((conv => whnf); refine Need.mk rfl ?_)
                exact trivial
              · conv => whnf
                refine Need.mk (OLe.refl _) ?_
                conv => whnf
                refine Need.mk (OLe.refl _) ?_
                conv => whnf
                refine Need.mk (OLe.refl _) ?_
                conv => whnf
                refine Need.mk (OLe.refl _) ?_
                exact trivial
          · rintro bb12 _
            conv => whnf
            refine Side.mk rfl ?_
            conv => whnf
            intro hd56
            obtain ⟨l34, hx147, hl2⟩ := obind hl2
            conv => whnf
            refine Side.mk ⟨rfl, rfl⟩ ?_
            conv => whnf
            refine Side.mk ⟨rfl, rfl, rfl⟩ (Need.mk (app_need hN hx147 (by decide)) (Eqv.mk (List.map Ref01Ball.enc l34) (app_map _ hx147) ?_))
            conv => whnf
            intro hd57
            conv => whnf
            refine Side.mk rfl ?_
            conv => whnf
            refine Side.mk rfl ?_
            conv => whnf
            refine ⟨(n12, (w64 (i8 + 1), next12, l34), hd57), hl2, Sub.eq rfl ?_ ?_, Nat.lt_succ_self _⟩
            · repeat ((conv => whnf); refine Need.mk rfl ?_)
              exact trivial
            · conv => whnf
              refine Need.mk (OLe.refl _) ?_
              conv => whnf
              refine Need.mk (OLe.refl _) ?_
              conv => whnf
              refine Need.mk (OLe.refl _) ?_
              exact trivial
        · replace hl2 := ite_f hc36 hl2
          cases hl2
          conv => whnf
          refine ⟨hd49, trivial, Sub.eq rfl ?_ ?_⟩
          · repeat ((conv => whnf); refine Need.mk rfl ?_)
            exact trivial
          · conv => whnf
            refine Need.mk (OLe.refl _) ?_
            conv => whnf
            refine Need.mk (OLe.refl _) ?_
            conv => whnf
            refine Need.mk (OLe.refl _) ?_
            exact trivial
  · rintro hd29 _
    conv => whnf
    refine Side.mk rfl ?_
    conv => whnf
    refine Side.mk rfl ?_
    conv => whnf
    refine Side.mk rfl ?_
    conv => whnf
    refine Side.mk rfl ?_
    conv => whnf
    cases h
    exact rfl

theorem ref01IsC {N : Nat} (hN : N ≤ 1073741824) {l1 : Ref01Law} {sheet1 : List Int} {r : Bool} (h : ref01Is N l1 sheet1 = some r) :
    ACalls Try.prog 6 [.d (.agg [I l1.fFrames, I l1.fPins, I l1.fBalls, I l1.fTap]), .d (.list 1 (List.map I sheet1))] [] fun e os => e = .ret (.d (.bool r)) ∧ os = [] := by
  refine acalls_f (fresh := false) tt_ok dr_ok ⟨[2], [], [], [], [], 0⟩ Try.func6 rfl Try.call6 rfl ?_
  unfold ref01Is at h
  obtain ⟨⟨ra2, rb2⟩, hx2, h⟩ := obind h
  conv => whnf
  refine CallG.pure _ (ref01PlayC hN hx2) ?_
  conv => whnf
  intro b2
  conv => whnf
  refine Side.mk rfl ?_
  conv => whnf
  refine Ln.mk _ (List.length_map _) ?_
  conv => whnf
  refine Ln.mk _ (List.length_map _) ?_
  conv => whnf
  cases h
  exact rfl

theorem law01LawC {N : Nat} (hN : N ≤ 1073741824) {l1 : Ref01Law} {r : FrameLaw} (h : law01Law N l1 = some r) :
    ACalls Try.prog 8 [.d (.agg [I l1.fFrames, I l1.fPins, I l1.fBalls, I l1.fTap])] [] fun e os => e = .ret (.d (.agg [I r.fFrames, I r.fPins, I r.fBalls, I r.fTap])) ∧ os = [] := by
  refine acalls_f (fresh := false) tt_ok dr_ok ⟨[1], [], [], [], [], 0⟩ Try.func8 rfl Try.call8 rfl ?_
  unfold law01Law at h
  conv => whnf
  intro b2
  conv => whnf
  refine Side.mk rfl ?_
  conv => whnf
  refine Side.mk rfl ?_
  conv => whnf
  cases h
  exact rfl

theorem law01ListC {N : Nat} (hN : N ≤ 1073741824) {l1 : List Int} {r : (List Int)} (h : law01List N l1 = some r) :
    ACalls Try.prog 22 [.d (.list 1 (List.map I l1))] [] fun e os => ∃ hd, e = .ret (.sl 0 hd) ∧ os = [(0, .arr hd 3 1 false (List.map I r))] := by
  refine acalls_fr tt_ok dr_ok ⟨[], [], [], [], [], 0⟩ Try.func22 rfl Try.call22 rfl ?_
  unfold law01List at h
  conv => whnf
  intro hd3
  obtain ⟨l3, hx2, h⟩ := obind h
  conv => whnf
  refine Side.mk rfl ?_
  conv => whnf
  refine Side.mk ⟨rfl, rfl, rfl⟩ (Need.mk (app_need hN hx2 (by decide)) (Eqv.mk (List.map I l3) (app_map _ hx2) ?_))
  conv => whnf
  intro hd4
  conv => whnf
  cases h
  exact ⟨_, _, rfl, rfl⟩

theorem law01EndedC {N : Nat} (hN : N ≤ 1073741824) {l1 : Ref01Law} {sheet1 : List Int} {words1 : List Int} {r : (List Int)} (h : law01Ended N l1 sheet1 words1 = some r) :
    ACalls Try.prog 10 [.d (.agg [I l1.fFrames, I l1.fPins, I l1.fBalls, I l1.fTap]), .d (.list 1 (List.map I sheet1)), .d (.list 1 (List.map (fun x => .int .u8 x) words1))] [] fun e os => e = .ret (.d (.list 1 (List.map I r))) ∧ os = [] := by
  refine acalls_f (fresh := false) tt_ok dr_ok ⟨[3], [], [], [], [4, 1003, 1007], 0⟩ Try.func10 rfl Try.call10 rfl ?_
  unfold law01Ended at h
  obtain ⟨r2, hx2, h⟩ := obind h
  conv => whnf
  refine CallG.fresh 14 (law01ListC hN hx2) ?_
  intro hd2
  obtain ⟨⟨ra2, rb2⟩, hx4, h⟩ := obind h
  conv => whnf
  refine CallG.pure _ (ref01PlayC hN hx4) ?_
  conv => whnf
  intro b2
  conv => whnf
  refine Side.mk rfl ?_
  obtain ⟨l18, hx71, h⟩ := obind h
  conv => whnf
  refine SeqG.mk Value (fun y => [(7, .sl 14 y)]) (fun y => [(14, .arr y 3 1 false (List.map I l18))]) (fun _ => True) ?_ ?_
  · conv => whnf
    refine LoopG.mk (Nat × (Int × (List Int) × Ref01Stand) × Value) (fun y => [(2, .d (.list 1 (List.map (fun x => .int .u8 x) words1))), (3, .d (.ref (.agg [I l1.fFrames, I l1.fPins, I l1.fBalls, I l1.fTap]))), (7, .sl 14 y.2.2), (8, .ptr 8 b2 0), (10, .d (I y.2.1.1))]) (fun y => [(14, .arr y.2.2 3 1 false (List.map I y.2.1.2.1)), (8, .cells b2 [.d (I y.2.1.2.2.fFrame), .d (I y.2.1.2.2.fThrown), .d (I y.2.1.2.2.fStanding), .d (.bool y.2.1.2.2.fSet), .d (I y.2.1.2.2.fHas)])]) (fun y => loopN (fun rr x => law01Ended_b1 N l1 words1 rr x.1 x.2.1 x.2.2) y.1 y.2.1 = some l18) (fun y => y.1) (N, (0, r2, ra2), hd2) hx71 (Sub.eq rfl ?_ ?_) ?_
    · repeat ((conv => whnf); refine Need.mk rfl ?_)
      exact trivial
    · conv => whnf
      refine Need.mk (OLe.refl _) ?_
      conv => whnf
      refine Need.mk (OLe.refl _) ?_
      exact trivial
    · rintro ⟨n2, ⟨k8, l30, s8⟩, hd51⟩ hl2
      obtain ⟨n2, rfl, hl2⟩ := loopN_some hl2
      replace hl2 : law01Ended_b1 N l1 words1 (loopN (fun rr x => law01Ended_b1 N l1 words1 rr x.1 x.2.1 x.2.2) n2) k8 l30 s8 = some l18 := hl2
      rw [law01Ended_b1] at hl2
      obtain ⟨v16, hx117, hl2⟩ := obind hl2
      conv => whnf
      refine SeqG.mk Unit (fun y => [(2, .d (.list 1 (List.map (fun x => .int .u8 x) words1))), (3, .d (.ref (.agg [I l1.fFrames, I l1.fPins, I l1.fBalls, I l1.fTap]))), (7, .sl 14 hd51), (8, .ptr 8 b2 0), (10, .d (I k8)), (29, .d (.bool v16))]) (fun y => [(14, .arr hd51 3 1 false (List.map I l30)), (8, .cells b2 [.d (I s8.fFrame), .d (I s8.fThrown), .d (I s8.fStanding), .d (.bool s8.fSet), .d (I s8.fHas)])]) (fun _ => True) ?_ ?_
      · conv => whnf
        refine Br.mk (fun hc47 => ?_) (fun hc47 => ?_)
        · replace hx117 := ite_t hc47 hx117
          conv => whnf
          refine Side.mk rfl ?_
          cases hx117
          conv => whnf
          refine ⟨(), trivial, Sub.eq rfl ?_ ?_⟩
          · repeat ((conv => whnf); refine Need.mk rfl ?_)
            exact trivial
          · conv => whnf
            refine Need.mk (OLe.refl _) ?_
            conv => whnf
            refine Need.mk (OLe.refl _) ?_
            exact trivial
        · replace hx117 := ite_f hc47 hx117
          cases hx117
          conv => whnf
          refine ⟨(), trivial, Sub.eq rfl ?_ ?_⟩
          · repeat ((conv => whnf); refine Need.mk rfl ?_)
            exact trivial
          · conv => whnf
            refine Need.mk (OLe.refl _) ?_
            conv => whnf
            refine Need.mk (OLe.refl _) ?_
            exact trivial
      · rintro _ _
        conv => whnf
        refine Br.mk (fun hc48 => ?_) (fun hc48 => ?_)
        · replace hl2 := ite_t hc48 hl2
          obtain ⟨w12, hx130, hl2⟩ := obind hl2
          conv => whnf
          refine SeqG.mk Unit (fun y => [(2, .d (.list 1 (List.map (fun x => .int .u8 x) words1))), (3, .d (.ref (.agg [I l1.fFrames, I l1.fPins, I l1.fBalls, I l1.fTap]))), (7, .sl 14 hd51), (8, .ptr 8 b2 0), (10, .d (I k8)), (11, .d (I w12))]) (fun y => [(14, .arr hd51 3 1 false (List.map I l30)), (8, .cells b2 [.d (I s8.fFrame), .d (I s8.fThrown), .d (I s8.fStanding), .d (.bool s8.fSet), .d (I s8.fHas)])]) (fun _ => True) ?_ ?_
          · conv => whnf
            refine Ln.mk _ (List.length_map _) ?_
            conv => whnf
            refine Br.mk (fun hc52 => ?_) (fun hc52 => ?_)
            · replace hx130 := ite_t hc52 hx130
              conv => whnf
              refine Ln.mk _ (List.length_map _) ?_
              obtain ⟨_, hx131, hx130⟩ := obind hx130
              conv => whnf
              refine Need.mk (nz_ne hx131) ?_
              obtain ⟨x24, hx132, hx130⟩ := obind hx130
              conv => whnf
              refine Side.mk rfl ⟨_, idx_0 hx132, idx_map _ hx132, ?_⟩
              cases hx130
              conv => whnf
              refine ⟨(), trivial, Sub.eq rfl ?_ ?_⟩
              · repeat ((conv => whnf); refine Need.mk rfl ?_)
                exact trivial
              · conv => whnf
                refine Need.mk (OLe.refl _) ?_
                conv => whnf
                refine Need.mk (OLe.refl _) ?_
                exact trivial
            · replace hx130 := ite_f hc52 hx130
              cases hx130
              conv => whnf
              refine ⟨(), trivial, Sub.eq rfl ?_ ?_⟩
              · repeat ((conv => whnf); refine Need.mk rfl ?_)
                exact trivial
              · conv => whnf
                refine Need.mk (OLe.refl _) ?_
                conv => whnf
                refine Need.mk (OLe.refl _) ?_
                exact trivial
          · rintro _ _
            conv => whnf
            refine Side.mk rfl ?_
            obtain ⟨_, hx134, hl2⟩ := obind hl2
            conv => whnf
            refine Need.mk (nz_ne hx134) ?_
            conv => whnf
            intro hd58
            obtain ⟨l34, hx136, hl2⟩ := obind hl2
            conv => whnf
            refine Side.mk ⟨rfl, rfl⟩ ?_
            conv => whnf
            refine Side.mk ⟨rfl, rfl, rfl⟩ (Need.mk (app_need hN hx136 (by decide)) (Eqv.mk (List.map I l34) (app_map _ hx136) ?_))
            conv => whnf
            intro hd59
            conv => whnf
            refine Side.mk rfl ?_
            obtain ⟨⟨ra14, rb14⟩, hx137, hl2⟩ := obind hl2
            conv => whnf
            refine CallG.pure _ (ref01ThrowC hN hx137) ?_
            conv => whnf
            refine Side.mk rfl ?_
            conv => whnf
            refine ⟨(n2, (w64 (k8 + 1), l34, ra14), hd59), hl2, Sub.eq rfl ?_ ?_, Nat.lt_succ_self _⟩
            · repeat ((conv => whnf); refine Need.mk rfl ?_)
              exact trivial
            · conv => whnf
              refine Need.mk (OLe.refl _) ?_
              conv => whnf
              refine Need.mk (OLe.refl _) ?_
              exact trivial
        · replace hl2 := ite_f hc48 hl2
          cases hl2
          conv => whnf
          refine ⟨hd51, trivial, Sub.eq rfl ?_ ?_⟩
          · repeat ((conv => whnf); refine Need.mk rfl ?_)
            exact trivial
          · conv => whnf
            refine Need.mk (OLe.refl _) ?_
            exact trivial
  · rintro hd31 _
    conv => whnf
    refine Side.mk rfl ?_
    conv => whnf
    cases h
    exact rfl
end Go.Proofs.Ythbifolpofillaa
