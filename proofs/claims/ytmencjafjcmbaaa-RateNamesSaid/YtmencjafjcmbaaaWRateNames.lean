/-
  The walk of the law RateNames.
-/
import Derived.Test.YtmencjafjcmbaaaDRateNames
import Derived.Test.YtmencjafjcmbaaaWd
namespace Go.Proofs.Ytmencjafjcmbaaa
open Go Go.Abs Go.Kp
set_option maxRecDepth 100000
set_option maxHeartbeats 8000000
set_option linter.all false

theorem law07RateNamesC {N : Nat} (hN : N ≤ 1073741824)  {r : Bool} (h : law07RateNames N = some r) :
    ACalls Try.prog 8 [] [] fun e os => e = .ret (.d (.bool r)) ∧ os = [] := by
  refine acalls_f (fresh := false) tt_ok dr_ok ⟨[], [], [], [], [8, 15, 23], 0, []⟩ Try.func8 rfl Try.call8 rfl ?_
  unfold law07RateNames at h
  obtain ⟨⟨ra3, rb3, rc2, rd2, re2, rf2, rg2⟩, hx3, h⟩ := obind h
  conv => whnf
  refine CallG.own (law07SeasonC hN hx3) id [] _ (fun y => [(190002, .arr y.1 3 1 false (List.map I rf2)), (190011, .arr y.2 65 6 false (List.map RateSheet.enc rg2))]) (all2_le_refl _) trivial rfl trivial trivial (fun _ => AV.le_refl _) (fun _ => rfl) ?_
  rintro ⟨hd3, hd4⟩ _
  obtain ⟨⟨ra4, rb4⟩, hx4, h⟩ := obind h
  conv => whnf
  refine Side.mk rfl ?_
  conv => whnf
  refine Side.mk rfl ?_
  conv => whnf
  refine CallG.pure _ (rateAverageC hN hx4) ?_
  obtain ⟨⟨ra7, rb7, rc4, rd4, re4, rf4, rg4⟩, hx7, h⟩ := obind h
  conv => whnf
  refine CallG.own (law07SeasonC hN hx7) (fun k => (cond (Nat.beq k 190011) 10190011 (cond (Nat.beq k 190002) 10190002 k))) [(190002, .arr hd3 3 1 true (List.map I rf2)), (190011, .arr hd4 65 6 true (List.map RateSheet.enc rg2))] (fun y => .agg [.d (I ra7), .d (I rb7), .d (I rc4), .d (I rd4), .d (I re4), .sl 10190002 y.1, .sl 10190011 y.2, .nils 1]) (fun y => [(10190002, .arr y.1 3 1 false (List.map I rf4)), (10190011, .arr y.2 65 6 false (List.map RateSheet.enc rg4)), (190002, .arr hd3 3 1 true (List.map I rf2)), (190011, .arr hd4 65 6 true (List.map RateSheet.enc rg2))]) (all2_le_refl _) trivial rfl trivial (And.intro rfl (And.intro rfl trivial)) (fun _ => AV.le_agg (All2.cons (AV.le_refl _) (All2.cons (AV.le_refl _) (All2.cons (AV.le_refl _) (All2.cons (AV.le_refl _) (All2.cons (AV.le_refl _) (All2.cons (AV.le_key _ _ _) (All2.cons (AV.le_key _ _ _) (All2.cons (AV.le_refl _) (All2.nil)))))))))) (fun _ => rfl) ?_
  rintro ⟨hd7, hd8⟩ _
  obtain ⟨⟨ra8, rb8⟩, hx8, h⟩ := obind h
  conv => whnf
  refine Side.mk rfl ?_
  conv => whnf
  refine Side.mk rfl ?_
  conv => whnf
  refine CallG.pure _ (rateAverageC hN hx8) ?_
  obtain ⟨⟨ra11, rb11, rc6, rd6, re6, rf6, rg6⟩, hx11, h⟩ := obind h
  conv => whnf
  refine CallG.own (law07SeasonC hN hx11) (fun k => (cond (Nat.beq k 190011) 20190011 (cond (Nat.beq k 190002) 20190002 k))) [(10190002, .arr hd7 3 1 true (List.map I rf4)), (10190011, .arr hd8 65 6 true (List.map RateSheet.enc rg4)), (190002, .arr hd3 3 1 true (List.map I rf2)), (190011, .arr hd4 65 6 true (List.map RateSheet.enc rg2))] (fun y => .agg [.d (I ra11), .d (I rb11), .d (I rc6), .d (I rd6), .d (I re6), .sl 20190002 y.1, .sl 20190011 y.2, .nils 1]) (fun y => [(20190002, .arr y.1 3 1 false (List.map I rf6)), (20190011, .arr y.2 65 6 false (List.map RateSheet.enc rg6)), (10190002, .arr hd7 3 1 true (List.map I rf4)), (10190011, .arr hd8 65 6 true (List.map RateSheet.enc rg4)), (190002, .arr hd3 3 1 true (List.map I rf2)), (190011, .arr hd4 65 6 true (List.map RateSheet.enc rg2))]) (all2_le_refl _) trivial rfl trivial (And.intro rfl (And.intro rfl (And.intro rfl (And.intro rfl trivial)))) (fun _ => AV.le_agg (All2.cons (AV.le_refl _) (All2.cons (AV.le_refl _) (All2.cons (AV.le_refl _) (All2.cons (AV.le_refl _) (All2.cons (AV.le_refl _) (All2.cons (AV.le_key _ _ _) (All2.cons (AV.le_key _ _ _) (All2.cons (AV.le_refl _) (All2.nil)))))))))) (fun _ => rfl) ?_
  rintro ⟨hd11, hd12⟩ _
  obtain ⟨⟨ra12, rb12⟩, hx12, h⟩ := obind h
  conv => whnf
  refine Side.mk rfl ?_
  conv => whnf
  refine Side.mk rfl ?_
  conv => whnf
  refine CallG.pure _ (rateHandicapC hN hx12) ?_
  obtain ⟨⟨ra14, rb14, rc8, rd8, re8, rf8, rg8⟩, hx14, h⟩ := obind h
  conv => whnf
  refine CallG.own (law07SeasonC hN hx14) (fun k => (cond (Nat.beq k 190011) 30190011 (cond (Nat.beq k 190002) 30190002 k))) [(20190002, .arr hd11 3 1 true (List.map I rf6)), (20190011, .arr hd12 65 6 true (List.map RateSheet.enc rg6)), (10190002, .arr hd7 3 1 true (List.map I rf4)), (10190011, .arr hd8 65 6 true (List.map RateSheet.enc rg4)), (190002, .arr hd3 3 1 true (List.map I rf2)), (190011, .arr hd4 65 6 true (List.map RateSheet.enc rg2))] (fun y => .agg [.d (I ra14), .d (I rb14), .d (I rc8), .d (I rd8), .d (I re8), .sl 30190002 y.1, .sl 30190011 y.2, .nils 1]) (fun y => [(30190002, .arr y.1 3 1 false (List.map I rf8)), (30190011, .arr y.2 65 6 false (List.map RateSheet.enc rg8)), (20190002, .arr hd11 3 1 true (List.map I rf6)), (20190011, .arr hd12 65 6 true (List.map RateSheet.enc rg6)), (10190002, .arr hd7 3 1 true (List.map I rf4)), (10190011, .arr hd8 65 6 true (List.map RateSheet.enc rg4)), (190002, .arr hd3 3 1 true (List.map I rf2)), (190011, .arr hd4 65 6 true (List.map RateSheet.enc rg2))]) (all2_le_refl _) trivial rfl trivial (And.intro rfl (And.intro rfl (And.intro rfl (And.intro rfl (And.intro rfl (And.intro rfl trivial)))))) (fun _ => AV.le_agg (All2.cons (AV.le_refl _) (All2.cons (AV.le_refl _) (All2.cons (AV.le_refl _) (All2.cons (AV.le_refl _) (All2.cons (AV.le_refl _) (All2.cons (AV.le_key _ _ _) (All2.cons (AV.le_key _ _ _) (All2.cons (AV.le_refl _) (All2.nil)))))))))) (fun _ => rfl) ?_
  rintro ⟨hd15, hd16⟩ _
  conv => whnf
  intro b2
  conv => whnf
  refine Side.mk rfl ?_
  conv => whnf
  intro hd18
  conv => whnf
  refine Side.mk rfl ?_
  conv => whnf
  refine Side.mk rfl ?_
  obtain ⟨⟨ra16, rb16⟩, hx16, h⟩ := obind h
  conv => whnf
  refine Side.mk rfl ?_
  conv => whnf
  refine Side.mk rfl ?_
  conv => whnf
  refine Side.mk rfl ?_
  conv => whnf
  refine CallG.pure _ (rateAverageC hN hx16) ?_
  conv => whnf
  refine Side.mk rfl ?_
  obtain ⟨⟨ra18, rb18⟩, hx18, h⟩ := obind h
  conv => whnf
  refine Side.mk rfl ?_
  conv => whnf
  refine Side.mk rfl ?_
  conv => whnf
  refine Side.mk rfl ?_
  conv => whnf
  refine CallG.pure _ (rateCountingC hN hx18) ?_
  obtain ⟨v2, hx23, h⟩ := obind h
  conv => whnf
  refine SeqG.mk Unit (fun y => [(91, .d (.bool v2))]) (fun y => []) (fun _ => True) ?_ ?_
  ·conv => whnf
   refine Br.mk (fun hc29 => ?_) (fun hc29 => ?_)
   ·replace hx23 := ite_f hc29 hx23
    conv => whnf
    refine Br.mk (fun hc30 => ?_) (fun hc30 => ?_)
    ·replace hx23 := ite_f hc30 hx23
     conv => whnf
     refine Br.mk (fun hc31 => ?_) (fun hc31 => ?_)
     ·replace hx23 := ite_f hc31 hx23
      conv => whnf
      refine Br.mk (fun hc32 => ?_) (fun hc32 => ?_)
      ·replace hx23 := ite_f hc32 hx23
       conv => whnf
       refine Br.mk (fun hc33 => ?_) (fun hc33 => ?_)
       ·replace hx23 := ite_f hc33 hx23
        conv => whnf
        refine Br.mk (fun hc34 => ?_) (fun hc34 => ?_)
        ·replace hx23 := ite_f hc34 hx23
         conv => whnf
         refine Br.mk (fun hc35 => ?_) (fun hc35 => ?_)
         ·replace hx23 := ite_f hc35 hx23
          conv => whnf
          refine Br.mk (fun hc36 => ?_) (fun hc36 => ?_)
          ·replace hx23 := ite_f hc36 hx23
           conv => whnf
           refine Br.mk (fun hc37 => ?_) (fun hc37 => ?_)
           ·replace hx23 := ite_f hc37 hx23
            conv => whnf
            intro hd22
            obtain ⟨r4, hx24, hx23⟩ := obind hx23
            conv => whnf
            refine Side.mk rfl ?_
            conv => whnf
            refine CallG.pure _ (law07IntsC hN hx24) ?_
            cases hx23
            conv => whnf
            refine ⟨(), trivial, Sub.eq rfl ?_ ?_⟩
            ·repeat ((conv => whnf); refine Need.mk rfl ?_)
             exact trivial
            ·exact trivial
           ·replace hx23 := ite_t hc37 hx23
            cases hx23
            conv => whnf
            refine ⟨(), trivial, Sub.eq rfl ?_ ?_⟩
            ·repeat ((conv => whnf); refine Need.mk rfl ?_)
             exact trivial
            ·exact trivial
          ·replace hx23 := ite_t hc36 hx23
           cases hx23
           conv => whnf
           refine ⟨(), trivial, Sub.eq rfl ?_ ?_⟩
           ·repeat ((conv => whnf); refine Need.mk rfl ?_)
            exact trivial
           ·exact trivial
         ·replace hx23 := ite_t hc35 hx23
          cases hx23
          conv => whnf
          refine ⟨(), trivial, Sub.eq rfl ?_ ?_⟩
          ·repeat ((conv => whnf); refine Need.mk rfl ?_)
           exact trivial
          ·exact trivial
        ·replace hx23 := ite_t hc34 hx23
         cases hx23
         conv => whnf
         refine ⟨(), trivial, Sub.eq rfl ?_ ?_⟩
         ·repeat ((conv => whnf); refine Need.mk rfl ?_)
          exact trivial
         ·exact trivial
       ·replace hx23 := ite_t hc33 hx23
        cases hx23
        conv => whnf
        refine ⟨(), trivial, Sub.eq rfl ?_ ?_⟩
        ·repeat ((conv => whnf); refine Need.mk rfl ?_)
         exact trivial
        ·exact trivial
      ·replace hx23 := ite_t hc32 hx23
       cases hx23
       conv => whnf
       refine ⟨(), trivial, Sub.eq rfl ?_ ?_⟩
       ·repeat ((conv => whnf); refine Need.mk rfl ?_)
        exact trivial
       ·exact trivial
     ·replace hx23 := ite_t hc31 hx23
      cases hx23
      conv => whnf
      refine ⟨(), trivial, Sub.eq rfl ?_ ?_⟩
      ·repeat ((conv => whnf); refine Need.mk rfl ?_)
       exact trivial
      ·exact trivial
    ·replace hx23 := ite_t hc30 hx23
     cases hx23
     conv => whnf
     refine ⟨(), trivial, Sub.eq rfl ?_ ?_⟩
     ·repeat ((conv => whnf); refine Need.mk rfl ?_)
      exact trivial
     ·exact trivial
   ·replace hx23 := ite_t hc29 hx23
    cases hx23
    conv => whnf
    refine ⟨(), trivial, Sub.eq rfl ?_ ?_⟩
    ·repeat ((conv => whnf); refine Need.mk rfl ?_)
     exact trivial
    ·exact trivial
  ·rintro _ _
   conv => whnf
   refine Br.mk (fun hc38 => ?_) (fun hc38 => ?_)
   ·replace h := ite_t hc38 h
    conv => whnf
    cases h
    exact rfl
   ·replace h := ite_f hc38 h
    obtain ⟨⟨ra21, rb21, rc10, rd10, re10, rf10, rg10⟩, hx27, h⟩ := obind h
    conv => whnf
    refine CallG.own (law07SeasonC hN hx27) id [] _ (fun y => [(190002, .arr y.1 3 1 false (List.map I rf10)), (190011, .arr y.2 65 6 false (List.map RateSheet.enc rg10))]) (all2_le_refl _) trivial rfl trivial trivial (fun _ => AV.le_refl _) (fun _ => rfl) ?_
    rintro ⟨hd25, hd26⟩ _
    obtain ⟨⟨ra22, rb22⟩, hx28, h⟩ := obind h
    conv => whnf
    refine Side.mk rfl ?_
    conv => whnf
    refine Side.mk rfl ?_
    conv => whnf
    refine CallG.pure _ (rateAverageC hN hx28) ?_
    obtain ⟨⟨ra25, rb25, rc12, rd12, re12, rf12, rg12⟩, hx31, h⟩ := obind h
    conv => whnf
    refine CallG.own (law07SeasonC hN hx31) (fun k => (cond (Nat.beq k 190011) 10190011 (cond (Nat.beq k 190002) 10190002 k))) [(190002, .arr hd25 3 1 true (List.map I rf10)), (190011, .arr hd26 65 6 true (List.map RateSheet.enc rg10))] (fun y => .agg [.d (I ra25), .d (I rb25), .d (I rc12), .d (I rd12), .d (I re12), .sl 10190002 y.1, .sl 10190011 y.2, .nils 1]) (fun y => [(10190002, .arr y.1 3 1 false (List.map I rf12)), (10190011, .arr y.2 65 6 false (List.map RateSheet.enc rg12)), (190002, .arr hd25 3 1 true (List.map I rf10)), (190011, .arr hd26 65 6 true (List.map RateSheet.enc rg10))]) (all2_le_refl _) trivial rfl trivial (And.intro rfl (And.intro rfl trivial)) (fun _ => AV.le_agg (All2.cons (AV.le_refl _) (All2.cons (AV.le_refl _) (All2.cons (AV.le_refl _) (All2.cons (AV.le_refl _) (All2.cons (AV.le_refl _) (All2.cons (AV.le_key _ _ _) (All2.cons (AV.le_key _ _ _) (All2.cons (AV.le_refl _) (All2.nil)))))))))) (fun _ => rfl) ?_
    rintro ⟨hd29, hd30⟩ _
    obtain ⟨⟨ra26, rb26⟩, hx32, h⟩ := obind h
    conv => whnf
    refine Side.mk rfl ?_
    conv => whnf
    refine Side.mk rfl ?_
    conv => whnf
    refine CallG.pure _ (rateHandicapC hN hx32) ?_
    obtain ⟨⟨ra29, rb29, rc15, rd14, re14, rf14, rg14⟩, hx35, h⟩ := obind h
    conv => whnf
    refine CallG.own (law07SeasonC hN hx35) (fun k => (cond (Nat.beq k 190011) 20190011 (cond (Nat.beq k 190002) 20190002 k))) [(10190002, .arr hd29 3 1 true (List.map I rf12)), (10190011, .arr hd30 65 6 true (List.map RateSheet.enc rg12)), (190002, .arr hd25 3 1 true (List.map I rf10)), (190011, .arr hd26 65 6 true (List.map RateSheet.enc rg10))] (fun y => .agg [.d (I ra29), .d (I rb29), .d (I rc15), .d (I rd14), .d (I re14), .sl 20190002 y.1, .sl 20190011 y.2, .nils 1]) (fun y => [(20190002, .arr y.1 3 1 false (List.map I rf14)), (20190011, .arr y.2 65 6 false (List.map RateSheet.enc rg14)), (10190002, .arr hd29 3 1 true (List.map I rf12)), (10190011, .arr hd30 65 6 true (List.map RateSheet.enc rg12)), (190002, .arr hd25 3 1 true (List.map I rf10)), (190011, .arr hd26 65 6 true (List.map RateSheet.enc rg10))]) (all2_le_refl _) trivial rfl trivial (And.intro rfl (And.intro rfl (And.intro rfl (And.intro rfl trivial)))) (fun _ => AV.le_agg (All2.cons (AV.le_refl _) (All2.cons (AV.le_refl _) (All2.cons (AV.le_refl _) (All2.cons (AV.le_refl _) (All2.cons (AV.le_refl _) (All2.cons (AV.le_key _ _ _) (All2.cons (AV.le_key _ _ _) (All2.cons (AV.le_refl _) (All2.nil)))))))))) (fun _ => rfl) ?_
    rintro ⟨hd35, hd36⟩ _
    conv => whnf
    intro hd37
    conv => whnf
    intro hd38
    obtain ⟨⟨ra30, rb30, rc16⟩, hx36, h⟩ := obind h
    conv => whnf
    refine Side.mk rfl ?_
    conv => whnf
    refine Side.mk rfl ?_
    conv => whnf
    refine Side.mk rfl ?_
    conv => whnf
    refine Side.mk rfl ?_
    conv => whnf
    refine CallG.pure _ (rateMatchC hN hx36) ?_
    obtain ⟨⟨ra33, rb33, rc19, rd16, re16, rf16, rg16⟩, hx39, h⟩ := obind h
    conv => whnf
    refine CallG.own (law07SeasonC hN hx39) (fun k => (cond (Nat.beq k 190011) 30190011 (cond (Nat.beq k 190002) 30190002 k))) [(20190002, .arr hd35 3 1 true (List.map I rf14)), (20190011, .arr hd36 65 6 true (List.map RateSheet.enc rg14)), (10190002, .arr hd29 3 1 true (List.map I rf12)), (10190011, .arr hd30 65 6 true (List.map RateSheet.enc rg12)), (190002, .arr hd25 3 1 true (List.map I rf10)), (190011, .arr hd26 65 6 true (List.map RateSheet.enc rg10)), (104, .arr hd37 3 1 true (List.map I ([0, 1]))), (105, .arr hd38 3 1 true (List.map I ([1])))] (fun y => .agg [.d (I ra33), .d (I rb33), .d (I rc19), .d (I rd16), .d (I re16), .sl 30190002 y.1, .sl 30190011 y.2, .nils 1]) (fun y => [(30190002, .arr y.1 3 1 false (List.map I rf16)), (30190011, .arr y.2 65 6 false (List.map RateSheet.enc rg16)), (20190002, .arr hd35 3 1 true (List.map I rf14)), (20190011, .arr hd36 65 6 true (List.map RateSheet.enc rg14)), (10190002, .arr hd29 3 1 true (List.map I rf12)), (10190011, .arr hd30 65 6 true (List.map RateSheet.enc rg12)), (190002, .arr hd25 3 1 true (List.map I rf10)), (190011, .arr hd26 65 6 true (List.map RateSheet.enc rg10)), (104, .arr hd37 3 1 true (List.map I ([0, 1]))), (105, .arr hd38 3 1 true (List.map I ([1])))]) (all2_le_refl _) trivial rfl trivial (And.intro rfl (And.intro rfl (And.intro rfl (And.intro rfl (And.intro rfl (And.intro rfl (And.intro rfl (And.intro rfl trivial)))))))) (fun _ => AV.le_agg (All2.cons (AV.le_refl _) (All2.cons (AV.le_refl _) (All2.cons (AV.le_refl _) (All2.cons (AV.le_refl _) (All2.cons (AV.le_refl _) (All2.cons (AV.le_key _ _ _) (All2.cons (AV.le_key _ _ _) (All2.cons (AV.le_refl _) (All2.nil)))))))))) (fun _ => rfl) ?_
    rintro ⟨hd42, hd43⟩ _
    conv => whnf
    intro hd44
    obtain ⟨⟨ra34, rb34, rc20⟩, hx40, h⟩ := obind h
    conv => whnf
    refine Side.mk rfl ?_
    conv => whnf
    refine Side.mk rfl ?_
    conv => whnf
    refine Side.mk rfl ?_
    conv => whnf
    refine CallG.pure _ (rateMatchC hN hx40) ?_
    obtain ⟨⟨ra37, rb37, rc23, rd18, re18, rf18, rg18⟩, hx43, h⟩ := obind h
    conv => whnf
    refine CallG.own (law07SeasonC hN hx43) (fun k => (cond (Nat.beq k 190011) 40190011 (cond (Nat.beq k 190002) 40190002 k))) [(30190002, .arr hd42 3 1 true (List.map I rf16)), (30190011, .arr hd43 65 6 true (List.map RateSheet.enc rg16)), (20190002, .arr hd35 3 1 true (List.map I rf14)), (20190011, .arr hd36 65 6 true (List.map RateSheet.enc rg14)), (10190002, .arr hd29 3 1 true (List.map I rf12)), (10190011, .arr hd30 65 6 true (List.map RateSheet.enc rg12)), (190002, .arr hd25 3 1 true (List.map I rf10)), (190011, .arr hd26 65 6 true (List.map RateSheet.enc rg10)), (104, .arr hd37 3 1 true (List.map I ([0, 1]))), (105, .arr hd38 3 1 true (List.map I ([1]))), (112, .arr hd44 3 1 true (List.map I ([0])))] (fun y => .agg [.d (I ra37), .d (I rb37), .d (I rc23), .d (I rd18), .d (I re18), .sl 40190002 y.1, .sl 40190011 y.2, .nils 1]) (fun y => [(40190002, .arr y.1 3 1 false (List.map I rf18)), (40190011, .arr y.2 65 6 false (List.map RateSheet.enc rg18)), (30190002, .arr hd42 3 1 true (List.map I rf16)), (30190011, .arr hd43 65 6 true (List.map RateSheet.enc rg16)), (20190002, .arr hd35 3 1 true (List.map I rf14)), (20190011, .arr hd36 65 6 true (List.map RateSheet.enc rg14)), (10190002, .arr hd29 3 1 true (List.map I rf12)), (10190011, .arr hd30 65 6 true (List.map RateSheet.enc rg12)), (190002, .arr hd25 3 1 true (List.map I rf10)), (190011, .arr hd26 65 6 true (List.map RateSheet.enc rg10)), (104, .arr hd37 3 1 true (List.map I ([0, 1]))), (105, .arr hd38 3 1 true (List.map I ([1]))), (112, .arr hd44 3 1 true (List.map I ([0])))]) (all2_le_refl _) trivial rfl trivial (And.intro rfl (And.intro rfl (And.intro rfl (And.intro rfl (And.intro rfl (And.intro rfl (And.intro rfl (And.intro rfl (And.intro rfl (And.intro rfl (And.intro rfl trivial))))))))))) (fun _ => AV.le_agg (All2.cons (AV.le_refl _) (All2.cons (AV.le_refl _) (All2.cons (AV.le_refl _) (All2.cons (AV.le_refl _) (All2.cons (AV.le_refl _) (All2.cons (AV.le_key _ _ _) (All2.cons (AV.le_key _ _ _) (All2.cons (AV.le_refl _) (All2.nil)))))))))) (fun _ => rfl) ?_
    rintro ⟨hd47, hd48⟩ _
    obtain ⟨⟨ra38, rb38, rc24⟩, hx44, h⟩ := obind h
    conv => whnf
    refine Side.mk rfl ?_
    conv => whnf
    refine Side.mk rfl ?_
    conv => whnf
    refine CallG.pure _ (rateMatchC hN hx44) ?_
    obtain ⟨k1, hx48, h⟩ := obind h
    conv => whnf
    refine SeqG.mk Unit (fun y => [(2, .d (I rb22)), (4, .d (I rb26)), (6, .d (I rc16)), (9, .d (I rc20)), (11, .d (I rc24)), (14, .d (I k1))]) (fun y => []) (fun _ => True) ?_ ?_
    ·obtain ⟨⟨ra41, rb41, rc27, rd20, re20, rf20, rg20⟩, hx49, hx48⟩ := obind hx48
     obtain ⟨l2, hx50, hx48⟩ := obind hx48
     obtain ⟨⟨ra42, rb42, rc28⟩, hx51, hx48⟩ := obind hx48
     conv => whnf
     refine DrawG.mk (.alt 0 [] (.alt 1 [] (.alt 2 [] (.alt 3 [] (.take 4 (.take 5 (.take 6 (.take 7 (.take 8 (.take 9 (.take 10 .done))))))) .nil) .nil) (.alt 2 [] (.alt 1 [] (.alt 3 [] (.take 4 (.take 5 (.take 6 (.take 7 (.take 8 (.take 9 (.take 10 .done))))))) .nil) .nil) .nil)) (.alt 1 [] (.alt 0 [] (.alt 2 [] (.alt 3 [] (.take 4 (.take 5 (.take 6 (.take 7 (.take 8 (.take 9 (.take 10 .done))))))) .nil) .nil) (.alt 2 [] (.alt 0 [] (.alt 3 [] (.take 4 (.take 5 (.take 6 (.take 7 (.take 8 (.take 9 (.take 10 .done))))))) .nil) .nil) .nil)) (.alt 2 [] (.alt 0 [] (.alt 1 [] (.alt 3 [] (.take 4 (.take 5 (.take 6 (.take 7 (.take 8 (.take 9 (.take 10 .done))))))) .nil) .nil) (.alt 1 [] (.alt 0 [] (.alt 3 [] (.take 4 (.take 5 (.take 6 (.take 7 (.take 8 (.take 9 (.take 10 .done))))))) .nil) .nil) .nil)) .nil))) (by kernel_rfl) ?_
     conv => whnf
     refine Both.mk ?_ ?_
     ·conv => whnf
      refine CallG.own (law07SeasonC hN hx49) (fun k => (cond (Nat.beq k 190011) 50190011 (cond (Nat.beq k 190002) 50190002 k))) [(40190002, .arr hd47 3 1 true (List.map I rf18)), (40190011, .arr hd48 65 6 true (List.map RateSheet.enc rg18)), (30190002, .arr hd42 3 1 true (List.map I rf16)), (30190011, .arr hd43 65 6 true (List.map RateSheet.enc rg16)), (20190002, .arr hd35 3 1 true (List.map I rf14)), (20190011, .arr hd36 65 6 true (List.map RateSheet.enc rg14)), (10190002, .arr hd29 3 1 true (List.map I rf12)), (10190011, .arr hd30 65 6 true (List.map RateSheet.enc rg12)), (190002, .arr hd25 3 1 true (List.map I rf10)), (190011, .arr hd26 65 6 true (List.map RateSheet.enc rg10)), (104, .arr hd37 3 1 true (List.map I ([0, 1]))), (105, .arr hd38 3 1 true (List.map I ([1]))), (112, .arr hd44 3 1 true (List.map I ([0])))] (fun y => .agg [.d (I ra41), .d (I rb41), .d (I rc27), .d (I rd20), .d (I re20), .sl 50190002 y.1, .sl 50190011 y.2, .nils 1]) (fun y => [(50190002, .arr y.1 3 1 false (List.map I rf20)), (50190011, .arr y.2 65 6 false (List.map RateSheet.enc rg20)), (40190002, .arr hd47 3 1 true (List.map I rf18)), (40190011, .arr hd48 65 6 true (List.map RateSheet.enc rg18)), (30190002, .arr hd42 3 1 true (List.map I rf16)), (30190011, .arr hd43 65 6 true (List.map RateSheet.enc rg16)), (20190002, .arr hd35 3 1 true (List.map I rf14)), (20190011, .arr hd36 65 6 true (List.map RateSheet.enc rg14)), (10190002, .arr hd29 3 1 true (List.map I rf12)), (10190011, .arr hd30 65 6 true (List.map RateSheet.enc rg12)), (190002, .arr hd25 3 1 true (List.map I rf10)), (190011, .arr hd26 65 6 true (List.map RateSheet.enc rg10)), (104, .arr hd37 3 1 true (List.map I ([0, 1]))), (105, .arr hd38 3 1 true (List.map I ([1]))), (112, .arr hd44 3 1 true (List.map I ([0])))]) (all2_le_refl _) trivial rfl trivial (And.intro rfl (And.intro rfl (And.intro rfl (And.intro rfl (And.intro rfl (And.intro rfl (And.intro rfl (And.intro rfl (And.intro rfl (And.intro rfl (And.intro rfl (And.intro rfl (And.intro rfl trivial))))))))))))) (fun _ => AV.le_agg (All2.cons (AV.le_refl _) (All2.cons (AV.le_refl _) (All2.cons (AV.le_refl _) (All2.cons (AV.le_refl _) (All2.cons (AV.le_refl _) (All2.cons (AV.le_key _ _ _) (All2.cons (AV.le_key _ _ _) (All2.cons (AV.le_refl _) (All2.nil)))))))))) (fun _ => rfl) ?_
      rintro ⟨hd77, hd78⟩ _
      conv => whnf
      refine Both.mk ?_ ?_
      ·conv => whnf
       refine Need.mk (mkl_need hN hx50 (by decide)) (Eqv.mk (List.map I l2) (mkl_map _ hx50 rfl) ?_)
       conv => whnf
       intro hd79
       conv => whnf
       refine Both.mk ?_ trivial
       conv => whnf
       intro hd80
       conv => whnf
       refine Both.mk ?_ trivial
       conv => whnf
       refine Side.mk rfl ?_
       conv => whnf
       refine Side.mk rfl ?_
       conv => whnf
       refine Side.mk rfl ?_
       conv => whnf
       refine Side.mk rfl ?_
       conv => whnf
       refine CallG.pure _ (rateMatchC hN hx51) ?_
       cases hx48
       conv => whnf
       refine ⟨(), trivial, Sub.eq rfl ?_ ?_⟩
       ·repeat ((conv => whnf); refine Need.mk rfl ?_)
        exact trivial
       ·exact trivial
      ·conv => whnf
       refine Both.mk ?_ trivial
       conv => whnf
       intro hd81
       conv => whnf
       refine Both.mk ?_ trivial
       conv => whnf
       refine Need.mk (mkl_need hN hx50 (by decide)) (Eqv.mk (List.map I l2) (mkl_map _ hx50 rfl) ?_)
       conv => whnf
       intro hd82
       conv => whnf
       refine Both.mk ?_ trivial
       conv => whnf
       refine Side.mk rfl ?_
       conv => whnf
       refine Side.mk rfl ?_
       conv => whnf
       refine Side.mk rfl ?_
       conv => whnf
       refine Side.mk rfl ?_
       conv => whnf
       refine CallG.pure _ (rateMatchC hN hx51) ?_
       cases hx48
       conv => whnf
       refine ⟨(), trivial, Sub.eq rfl ?_ ?_⟩
       ·repeat ((conv => whnf); refine Need.mk rfl ?_)
        exact trivial
       ·exact trivial
     ·conv => whnf
      refine Both.mk ?_ ?_
      ·conv => whnf
       refine Need.mk (mkl_need hN hx50 (by decide)) (Eqv.mk (List.map I l2) (mkl_map _ hx50 rfl) ?_)
       conv => whnf
       intro hd83
       conv => whnf
       refine Both.mk ?_ ?_
       ·conv => whnf
        refine CallG.own (law07SeasonC hN hx49) (fun k => (cond (Nat.beq k 190011) 50190011 (cond (Nat.beq k 190002) 50190002 k))) [(40190002, .arr hd47 3 1 true (List.map I rf18)), (40190011, .arr hd48 65 6 true (List.map RateSheet.enc rg18)), (30190002, .arr hd42 3 1 true (List.map I rf16)), (30190011, .arr hd43 65 6 true (List.map RateSheet.enc rg16)), (20190002, .arr hd35 3 1 true (List.map I rf14)), (20190011, .arr hd36 65 6 true (List.map RateSheet.enc rg14)), (10190002, .arr hd29 3 1 true (List.map I rf12)), (10190011, .arr hd30 65 6 true (List.map RateSheet.enc rg12)), (190002, .arr hd25 3 1 true (List.map I rf10)), (190011, .arr hd26 65 6 true (List.map RateSheet.enc rg10)), (104, .arr hd37 3 1 true (List.map I ([0, 1]))), (105, .arr hd38 3 1 true (List.map I ([1]))), (112, .arr hd44 3 1 true (List.map I ([0]))), (125, .arr hd83 3 1 false (List.map I l2))] (fun y => .agg [.d (I ra41), .d (I rb41), .d (I rc27), .d (I rd20), .d (I re20), .sl 50190002 y.1, .sl 50190011 y.2, .nils 1]) (fun y => [(50190002, .arr y.1 3 1 false (List.map I rf20)), (50190011, .arr y.2 65 6 false (List.map RateSheet.enc rg20)), (40190002, .arr hd47 3 1 true (List.map I rf18)), (40190011, .arr hd48 65 6 true (List.map RateSheet.enc rg18)), (30190002, .arr hd42 3 1 true (List.map I rf16)), (30190011, .arr hd43 65 6 true (List.map RateSheet.enc rg16)), (20190002, .arr hd35 3 1 true (List.map I rf14)), (20190011, .arr hd36 65 6 true (List.map RateSheet.enc rg14)), (10190002, .arr hd29 3 1 true (List.map I rf12)), (10190011, .arr hd30 65 6 true (List.map RateSheet.enc rg12)), (190002, .arr hd25 3 1 true (List.map I rf10)), (190011, .arr hd26 65 6 true (List.map RateSheet.enc rg10)), (104, .arr hd37 3 1 true (List.map I ([0, 1]))), (105, .arr hd38 3 1 true (List.map I ([1]))), (112, .arr hd44 3 1 true (List.map I ([0]))), (125, .arr hd83 3 1 false (List.map I l2))]) (all2_le_refl _) trivial rfl trivial (And.intro rfl (And.intro rfl (And.intro rfl (And.intro rfl (And.intro rfl (And.intro rfl (And.intro rfl (And.intro rfl (And.intro rfl (And.intro rfl (And.intro rfl (And.intro rfl (And.intro rfl (And.intro rfl trivial)))))))))))))) (fun _ => AV.le_agg (All2.cons (AV.le_refl _) (All2.cons (AV.le_refl _) (All2.cons (AV.le_refl _) (All2.cons (AV.le_refl _) (All2.cons (AV.le_refl _) (All2.cons (AV.le_key _ _ _) (All2.cons (AV.le_key _ _ _) (All2.cons (AV.le_refl _) (All2.nil)))))))))) (fun _ => rfl) ?_
        rintro ⟨hd84, hd85⟩ _
        conv => whnf
        refine Both.mk ?_ trivial
        conv => whnf
        intro hd86
        conv => whnf
        refine Both.mk ?_ trivial
        conv => whnf
        refine Side.mk rfl ?_
        conv => whnf
        refine Side.mk rfl ?_
        conv => whnf
        refine Side.mk rfl ?_
        conv => whnf
        refine Side.mk rfl ?_
        conv => whnf
        refine CallG.pure _ (rateMatchC hN hx51) ?_
        cases hx48
        conv => whnf
        refine ⟨(), trivial, Sub.eq rfl ?_ ?_⟩
        ·repeat ((conv => whnf); refine Need.mk rfl ?_)
         exact trivial
        ·exact trivial
       ·conv => whnf
        refine Both.mk ?_ trivial
        conv => whnf
        intro hd87
        conv => whnf
        refine Both.mk ?_ trivial
        conv => whnf
        refine CallG.own (law07SeasonC hN hx49) (fun k => (cond (Nat.beq k 190011) 50190011 (cond (Nat.beq k 190002) 50190002 k))) [(40190002, .arr hd47 3 1 true (List.map I rf18)), (40190011, .arr hd48 65 6 true (List.map RateSheet.enc rg18)), (30190002, .arr hd42 3 1 true (List.map I rf16)), (30190011, .arr hd43 65 6 true (List.map RateSheet.enc rg16)), (20190002, .arr hd35 3 1 true (List.map I rf14)), (20190011, .arr hd36 65 6 true (List.map RateSheet.enc rg14)), (10190002, .arr hd29 3 1 true (List.map I rf12)), (10190011, .arr hd30 65 6 true (List.map RateSheet.enc rg12)), (190002, .arr hd25 3 1 true (List.map I rf10)), (190011, .arr hd26 65 6 true (List.map RateSheet.enc rg10)), (104, .arr hd37 3 1 true (List.map I ([0, 1]))), (105, .arr hd38 3 1 true (List.map I ([1]))), (112, .arr hd44 3 1 true (List.map I ([0]))), (125, .arr hd83 3 1 false (List.map I l2)), (126, .arr hd87 3 1 false (List.map I ([1])))] (fun y => .agg [.d (I ra41), .d (I rb41), .d (I rc27), .d (I rd20), .d (I re20), .sl 50190002 y.1, .sl 50190011 y.2, .nils 1]) (fun y => [(50190002, .arr y.1 3 1 false (List.map I rf20)), (50190011, .arr y.2 65 6 false (List.map RateSheet.enc rg20)), (40190002, .arr hd47 3 1 true (List.map I rf18)), (40190011, .arr hd48 65 6 true (List.map RateSheet.enc rg18)), (30190002, .arr hd42 3 1 true (List.map I rf16)), (30190011, .arr hd43 65 6 true (List.map RateSheet.enc rg16)), (20190002, .arr hd35 3 1 true (List.map I rf14)), (20190011, .arr hd36 65 6 true (List.map RateSheet.enc rg14)), (10190002, .arr hd29 3 1 true (List.map I rf12)), (10190011, .arr hd30 65 6 true (List.map RateSheet.enc rg12)), (190002, .arr hd25 3 1 true (List.map I rf10)), (190011, .arr hd26 65 6 true (List.map RateSheet.enc rg10)), (104, .arr hd37 3 1 true (List.map I ([0, 1]))), (105, .arr hd38 3 1 true (List.map I ([1]))), (112, .arr hd44 3 1 true (List.map I ([0]))), (125, .arr hd83 3 1 false (List.map I l2)), (126, .arr hd87 3 1 false (List.map I ([1])))]) (all2_le_refl _) trivial rfl trivial (And.intro rfl (And.intro rfl (And.intro rfl (And.intro rfl (And.intro rfl (And.intro rfl (And.intro rfl (And.intro rfl (And.intro rfl (And.intro rfl (And.intro rfl (And.intro rfl (And.intro rfl (And.intro rfl (And.intro rfl trivial))))))))))))))) (fun _ => AV.le_agg (All2.cons (AV.le_refl _) (All2.cons (AV.le_refl _) (All2.cons (AV.le_refl _) (All2.cons (AV.le_refl _) (All2.cons (AV.le_refl _) (All2.cons (AV.le_key _ _ _) (All2.cons (AV.le_key _ _ _) (All2.cons (AV.le_refl _) (All2.nil)))))))))) (fun _ => rfl) ?_
        rintro ⟨hd88, hd89⟩ _
        conv => whnf
        refine Both.mk ?_ trivial
        conv => whnf
        refine Side.mk rfl ?_
        conv => whnf
        refine Side.mk rfl ?_
        conv => whnf
        refine Side.mk rfl ?_
        conv => whnf
        refine Side.mk rfl ?_
        conv => whnf
        refine CallG.pure _ (rateMatchC hN hx51) ?_
        cases hx48
        conv => whnf
        refine ⟨(), trivial, Sub.eq rfl ?_ ?_⟩
        ·repeat ((conv => whnf); refine Need.mk rfl ?_)
         exact trivial
        ·exact trivial
      ·conv => whnf
       refine Both.mk ?_ trivial
       conv => whnf
       intro hd90
       conv => whnf
       refine Both.mk ?_ ?_
       ·conv => whnf
        refine CallG.own (law07SeasonC hN hx49) (fun k => (cond (Nat.beq k 190011) 50190011 (cond (Nat.beq k 190002) 50190002 k))) [(40190002, .arr hd47 3 1 true (List.map I rf18)), (40190011, .arr hd48 65 6 true (List.map RateSheet.enc rg18)), (30190002, .arr hd42 3 1 true (List.map I rf16)), (30190011, .arr hd43 65 6 true (List.map RateSheet.enc rg16)), (20190002, .arr hd35 3 1 true (List.map I rf14)), (20190011, .arr hd36 65 6 true (List.map RateSheet.enc rg14)), (10190002, .arr hd29 3 1 true (List.map I rf12)), (10190011, .arr hd30 65 6 true (List.map RateSheet.enc rg12)), (190002, .arr hd25 3 1 true (List.map I rf10)), (190011, .arr hd26 65 6 true (List.map RateSheet.enc rg10)), (104, .arr hd37 3 1 true (List.map I ([0, 1]))), (105, .arr hd38 3 1 true (List.map I ([1]))), (112, .arr hd44 3 1 true (List.map I ([0]))), (126, .arr hd90 3 1 false (List.map I ([1])))] (fun y => .agg [.d (I ra41), .d (I rb41), .d (I rc27), .d (I rd20), .d (I re20), .sl 50190002 y.1, .sl 50190011 y.2, .nils 1]) (fun y => [(50190002, .arr y.1 3 1 false (List.map I rf20)), (50190011, .arr y.2 65 6 false (List.map RateSheet.enc rg20)), (40190002, .arr hd47 3 1 true (List.map I rf18)), (40190011, .arr hd48 65 6 true (List.map RateSheet.enc rg18)), (30190002, .arr hd42 3 1 true (List.map I rf16)), (30190011, .arr hd43 65 6 true (List.map RateSheet.enc rg16)), (20190002, .arr hd35 3 1 true (List.map I rf14)), (20190011, .arr hd36 65 6 true (List.map RateSheet.enc rg14)), (10190002, .arr hd29 3 1 true (List.map I rf12)), (10190011, .arr hd30 65 6 true (List.map RateSheet.enc rg12)), (190002, .arr hd25 3 1 true (List.map I rf10)), (190011, .arr hd26 65 6 true (List.map RateSheet.enc rg10)), (104, .arr hd37 3 1 true (List.map I ([0, 1]))), (105, .arr hd38 3 1 true (List.map I ([1]))), (112, .arr hd44 3 1 true (List.map I ([0]))), (126, .arr hd90 3 1 false (List.map I ([1])))]) (all2_le_refl _) trivial rfl trivial (And.intro rfl (And.intro rfl (And.intro rfl (And.intro rfl (And.intro rfl (And.intro rfl (And.intro rfl (And.intro rfl (And.intro rfl (And.intro rfl (And.intro rfl (And.intro rfl (And.intro rfl (And.intro rfl trivial)))))))))))))) (fun _ => AV.le_agg (All2.cons (AV.le_refl _) (All2.cons (AV.le_refl _) (All2.cons (AV.le_refl _) (All2.cons (AV.le_refl _) (All2.cons (AV.le_refl _) (All2.cons (AV.le_key _ _ _) (All2.cons (AV.le_key _ _ _) (All2.cons (AV.le_refl _) (All2.nil)))))))))) (fun _ => rfl) ?_
        rintro ⟨hd91, hd92⟩ _
        conv => whnf
        refine Both.mk ?_ trivial
        conv => whnf
        refine Need.mk (mkl_need hN hx50 (by decide)) (Eqv.mk (List.map I l2) (mkl_map _ hx50 rfl) ?_)
        conv => whnf
        intro hd93
        conv => whnf
        refine Both.mk ?_ trivial
        conv => whnf
        refine Side.mk rfl ?_
        conv => whnf
        refine Side.mk rfl ?_
        conv => whnf
        refine Side.mk rfl ?_
        conv => whnf
        refine Side.mk rfl ?_
        conv => whnf
        refine CallG.pure _ (rateMatchC hN hx51) ?_
        cases hx48
        conv => whnf
        refine ⟨(), trivial, Sub.eq rfl ?_ ?_⟩
        ·repeat ((conv => whnf); refine Need.mk rfl ?_)
         exact trivial
        ·exact trivial
       ·conv => whnf
        refine Both.mk ?_ trivial
        conv => whnf
        refine Need.mk (mkl_need hN hx50 (by decide)) (Eqv.mk (List.map I l2) (mkl_map _ hx50 rfl) ?_)
        conv => whnf
        intro hd94
        conv => whnf
        refine Both.mk ?_ trivial
        conv => whnf
        refine CallG.own (law07SeasonC hN hx49) (fun k => (cond (Nat.beq k 190011) 50190011 (cond (Nat.beq k 190002) 50190002 k))) [(40190002, .arr hd47 3 1 true (List.map I rf18)), (40190011, .arr hd48 65 6 true (List.map RateSheet.enc rg18)), (30190002, .arr hd42 3 1 true (List.map I rf16)), (30190011, .arr hd43 65 6 true (List.map RateSheet.enc rg16)), (20190002, .arr hd35 3 1 true (List.map I rf14)), (20190011, .arr hd36 65 6 true (List.map RateSheet.enc rg14)), (10190002, .arr hd29 3 1 true (List.map I rf12)), (10190011, .arr hd30 65 6 true (List.map RateSheet.enc rg12)), (190002, .arr hd25 3 1 true (List.map I rf10)), (190011, .arr hd26 65 6 true (List.map RateSheet.enc rg10)), (104, .arr hd37 3 1 true (List.map I ([0, 1]))), (105, .arr hd38 3 1 true (List.map I ([1]))), (112, .arr hd44 3 1 true (List.map I ([0]))), (126, .arr hd90 3 1 false (List.map I ([1]))), (125, .arr hd94 3 1 false (List.map I l2))] (fun y => .agg [.d (I ra41), .d (I rb41), .d (I rc27), .d (I rd20), .d (I re20), .sl 50190002 y.1, .sl 50190011 y.2, .nils 1]) (fun y => [(50190002, .arr y.1 3 1 false (List.map I rf20)), (50190011, .arr y.2 65 6 false (List.map RateSheet.enc rg20)), (40190002, .arr hd47 3 1 true (List.map I rf18)), (40190011, .arr hd48 65 6 true (List.map RateSheet.enc rg18)), (30190002, .arr hd42 3 1 true (List.map I rf16)), (30190011, .arr hd43 65 6 true (List.map RateSheet.enc rg16)), (20190002, .arr hd35 3 1 true (List.map I rf14)), (20190011, .arr hd36 65 6 true (List.map RateSheet.enc rg14)), (10190002, .arr hd29 3 1 true (List.map I rf12)), (10190011, .arr hd30 65 6 true (List.map RateSheet.enc rg12)), (190002, .arr hd25 3 1 true (List.map I rf10)), (190011, .arr hd26 65 6 true (List.map RateSheet.enc rg10)), (104, .arr hd37 3 1 true (List.map I ([0, 1]))), (105, .arr hd38 3 1 true (List.map I ([1]))), (112, .arr hd44 3 1 true (List.map I ([0]))), (126, .arr hd90 3 1 false (List.map I ([1]))), (125, .arr hd94 3 1 false (List.map I l2))]) (all2_le_refl _) trivial rfl trivial (And.intro rfl (And.intro rfl (And.intro rfl (And.intro rfl (And.intro rfl (And.intro rfl (And.intro rfl (And.intro rfl (And.intro rfl (And.intro rfl (And.intro rfl (And.intro rfl (And.intro rfl (And.intro rfl (And.intro rfl trivial))))))))))))))) (fun _ => AV.le_agg (All2.cons (AV.le_refl _) (All2.cons (AV.le_refl _) (All2.cons (AV.le_refl _) (All2.cons (AV.le_refl _) (All2.cons (AV.le_refl _) (All2.cons (AV.le_key _ _ _) (All2.cons (AV.le_key _ _ _) (All2.cons (AV.le_refl _) (All2.nil)))))))))) (fun _ => rfl) ?_
        rintro ⟨hd95, hd96⟩ _
        conv => whnf
        refine Both.mk ?_ trivial
        conv => whnf
        refine Side.mk rfl ?_
        conv => whnf
        refine Side.mk rfl ?_
        conv => whnf
        refine Side.mk rfl ?_
        conv => whnf
        refine Side.mk rfl ?_
        conv => whnf
        refine CallG.pure _ (rateMatchC hN hx51) ?_
        cases hx48
        conv => whnf
        refine ⟨(), trivial, Sub.eq rfl ?_ ?_⟩
        ·repeat ((conv => whnf); refine Need.mk rfl ?_)
         exact trivial
        ·exact trivial
    ·rintro _ _
     obtain ⟨⟨ra45, rb45, rc30, rd22, re22, rf22, rg22⟩, hx54, h⟩ := obind h
     conv => whnf
     refine CallG.own (law07SeasonC hN hx54) id [] _ (fun y => [(190002, .arr y.1 3 1 false (List.map I rf22)), (190011, .arr y.2 65 6 false (List.map RateSheet.enc rg22))]) (all2_le_refl _) trivial rfl trivial trivial (fun _ => AV.le_refl _) (fun _ => rfl) ?_
     rintro ⟨hd100, hd101⟩ _
     conv => whnf
     intro hd102
     obtain ⟨⟨ra46, rb46⟩, hx55, h⟩ := obind h
     conv => whnf
     refine Side.mk rfl ?_
     conv => whnf
     refine Side.mk rfl ?_
     conv => whnf
     refine Side.mk rfl ?_
     conv => whnf
     refine CallG.pure _ (rateSpanC hN hx55) ?_
     conv => whnf
     intro b4
     conv => whnf
     refine Side.mk rfl ?_
     obtain ⟨⟨ra49, rb49, rc32, rd24, re24, rf24, rg24⟩, hx58, h⟩ := obind h
     conv => whnf
     refine CallG.own (law07SeasonC hN hx58) (fun k => (cond (Nat.beq k 190011) 10190011 (cond (Nat.beq k 190002) 10190002 k))) [(190002, .arr hd100 3 1 true (List.map I rf22)), (190011, .arr hd101 65 6 true (List.map RateSheet.enc rg22)), (133, .arr hd102 3 1 true (List.map I ([1]))), (15, .cells b4 [.d (I ra46.fLo), .d (I ra46.fHi)])] (fun y => .agg [.d (I ra49), .d (I rb49), .d (I rc32), .d (I rd24), .d (I re24), .sl 10190002 y.1, .sl 10190011 y.2, .nils 1]) (fun y => [(10190002, .arr y.1 3 1 false (List.map I rf24)), (10190011, .arr y.2 65 6 false (List.map RateSheet.enc rg24)), (190002, .arr hd100 3 1 true (List.map I rf22)), (190011, .arr hd101 65 6 true (List.map RateSheet.enc rg22)), (133, .arr hd102 3 1 true (List.map I ([1]))), (15, .cells b4 [.d (I ra46.fLo), .d (I ra46.fHi)])]) (all2_le_refl _) trivial rfl trivial (And.intro rfl (And.intro rfl (And.intro rfl (And.intro rfl trivial)))) (fun _ => AV.le_agg (All2.cons (AV.le_refl _) (All2.cons (AV.le_refl _) (All2.cons (AV.le_refl _) (All2.cons (AV.le_refl _) (All2.cons (AV.le_refl _) (All2.cons (AV.le_key _ _ _) (All2.cons (AV.le_key _ _ _) (All2.cons (AV.le_refl _) (All2.nil)))))))))) (fun _ => rfl) ?_
     rintro ⟨hd106, hd107⟩ _
     conv => whnf
     intro hd108
     obtain ⟨⟨ra50, rb50⟩, hx59, h⟩ := obind h
     conv => whnf
     refine Side.mk rfl ?_
     conv => whnf
     refine Side.mk rfl ?_
     conv => whnf
     refine Side.mk rfl ?_
     conv => whnf
     refine CallG.pure _ (rateSpanC hN hx59) ?_
     conv => whnf
     intro b6
     conv => whnf
     refine Side.mk rfl ?_
     obtain ⟨⟨ra53, rb53, rc34, rd26, re26, rf26, rg26⟩, hx62, h⟩ := obind h
     conv => whnf
     refine CallG.own (law07SeasonC hN hx62) (fun k => (cond (Nat.beq k 190011) 20190011 (cond (Nat.beq k 190002) 20190002 k))) [(10190002, .arr hd106 3 1 true (List.map I rf24)), (10190011, .arr hd107 65 6 true (List.map RateSheet.enc rg24)), (190002, .arr hd100 3 1 true (List.map I rf22)), (190011, .arr hd101 65 6 true (List.map RateSheet.enc rg22)), (133, .arr hd102 3 1 true (List.map I ([1]))), (15, .cells b4 [.d (I ra46.fLo), .d (I ra46.fHi)]), (139, .arr hd108 3 1 true (List.map I ([3]))), (17, .cells b6 [.d (I ra50.fLo), .d (I ra50.fHi)])] (fun y => .agg [.d (I ra53), .d (I rb53), .d (I rc34), .d (I rd26), .d (I re26), .sl 20190002 y.1, .sl 20190011 y.2, .nils 1]) (fun y => [(20190002, .arr y.1 3 1 false (List.map I rf26)), (20190011, .arr y.2 65 6 false (List.map RateSheet.enc rg26)), (10190002, .arr hd106 3 1 true (List.map I rf24)), (10190011, .arr hd107 65 6 true (List.map RateSheet.enc rg24)), (190002, .arr hd100 3 1 true (List.map I rf22)), (190011, .arr hd101 65 6 true (List.map RateSheet.enc rg22)), (133, .arr hd102 3 1 true (List.map I ([1]))), (15, .cells b4 [.d (I ra46.fLo), .d (I ra46.fHi)]), (139, .arr hd108 3 1 true (List.map I ([3]))), (17, .cells b6 [.d (I ra50.fLo), .d (I ra50.fHi)])]) (all2_le_refl _) trivial rfl trivial (And.intro rfl (And.intro rfl (And.intro rfl (And.intro rfl (And.intro rfl (And.intro rfl (And.intro rfl (And.intro rfl trivial)))))))) (fun _ => AV.le_agg (All2.cons (AV.le_refl _) (All2.cons (AV.le_refl _) (All2.cons (AV.le_refl _) (All2.cons (AV.le_refl _) (All2.cons (AV.le_refl _) (All2.cons (AV.le_key _ _ _) (All2.cons (AV.le_key _ _ _) (All2.cons (AV.le_refl _) (All2.nil)))))))))) (fun _ => rfl) ?_
     rintro ⟨hd112, hd113⟩ _
     conv => whnf
     intro hd114
     obtain ⟨⟨ra54, rb54⟩, hx63, h⟩ := obind h
     conv => whnf
     refine Side.mk rfl ?_
     conv => whnf
     refine Side.mk rfl ?_
     conv => whnf
     refine Side.mk rfl ?_
     conv => whnf
     refine CallG.pure _ (rateSpanC hN hx63) ?_
     conv => whnf
     intro b8
     conv => whnf
     refine Side.mk rfl ?_
     obtain ⟨⟨ra58, rb58, rc38, rd30, re30, rf30, rg30⟩, hx67, h⟩ := obind h
     conv => whnf
     refine CallG.own (law07SeasonC hN hx67) (fun k => (cond (Nat.beq k 190011) 30190011 (cond (Nat.beq k 190002) 30190002 k))) [(20190002, .arr hd112 3 1 true (List.map I rf26)), (20190011, .arr hd113 65 6 true (List.map RateSheet.enc rg26)), (10190002, .arr hd106 3 1 true (List.map I rf24)), (10190011, .arr hd107 65 6 true (List.map RateSheet.enc rg24)), (190002, .arr hd100 3 1 true (List.map I rf22)), (190011, .arr hd101 65 6 true (List.map RateSheet.enc rg22)), (133, .arr hd102 3 1 true (List.map I ([1]))), (15, .cells b4 [.d (I ra46.fLo), .d (I ra46.fHi)]), (139, .arr hd108 3 1 true (List.map I ([3]))), (17, .cells b6 [.d (I ra50.fLo), .d (I ra50.fHi)]), (145, .arr hd114 3 1 true (List.map I ([2, 1]))), (19, .cells b8 [.d (I ra54.fLo), .d (I ra54.fHi)])] (fun y => .agg [.d (I ra58), .d (I rb58), .d (I rc38), .d (I rd30), .d (I re30), .sl 30190002 y.1, .sl 30190011 y.2, .nils 1]) (fun y => [(30190002, .arr y.1 3 1 false (List.map I rf30)), (30190011, .arr y.2 65 6 false (List.map RateSheet.enc rg30)), (20190002, .arr hd112 3 1 true (List.map I rf26)), (20190011, .arr hd113 65 6 true (List.map RateSheet.enc rg26)), (10190002, .arr hd106 3 1 true (List.map I rf24)), (10190011, .arr hd107 65 6 true (List.map RateSheet.enc rg24)), (190002, .arr hd100 3 1 true (List.map I rf22)), (190011, .arr hd101 65 6 true (List.map RateSheet.enc rg22)), (133, .arr hd102 3 1 true (List.map I ([1]))), (15, .cells b4 [.d (I ra46.fLo), .d (I ra46.fHi)]), (139, .arr hd108 3 1 true (List.map I ([3]))), (17, .cells b6 [.d (I ra50.fLo), .d (I ra50.fHi)]), (145, .arr hd114 3 1 true (List.map I ([2, 1]))), (19, .cells b8 [.d (I ra54.fLo), .d (I ra54.fHi)])]) (all2_le_refl _) trivial rfl trivial (And.intro rfl (And.intro rfl (And.intro rfl (And.intro rfl (And.intro rfl (And.intro rfl (And.intro rfl (And.intro rfl (And.intro rfl (And.intro rfl (And.intro rfl (And.intro rfl trivial)))))))))))) (fun _ => AV.le_agg (All2.cons (AV.le_refl _) (All2.cons (AV.le_refl _) (All2.cons (AV.le_refl _) (All2.cons (AV.le_refl _) (All2.cons (AV.le_refl _) (All2.cons (AV.le_key _ _ _) (All2.cons (AV.le_key _ _ _) (All2.cons (AV.le_refl _) (All2.nil)))))))))) (fun _ => rfl) ?_
     rintro ⟨hd121, hd122⟩ _
     obtain ⟨⟨ra59, rb59, rc39, rd31, re31, rf31, rg31⟩, hx68, h⟩ := obind h
     conv => whnf
     refine CallG.own (law07SeasonC hN hx68) (fun k => (cond (Nat.beq k 190011) 40190011 (cond (Nat.beq k 190002) 40190002 k))) [(30190002, .arr hd121 3 1 false (List.map I rf30)), (30190011, .arr hd122 65 6 false (List.map RateSheet.enc rg30)), (20190002, .arr hd112 3 1 true (List.map I rf26)), (20190011, .arr hd113 65 6 true (List.map RateSheet.enc rg26)), (10190002, .arr hd106 3 1 true (List.map I rf24)), (10190011, .arr hd107 65 6 true (List.map RateSheet.enc rg24)), (190002, .arr hd100 3 1 true (List.map I rf22)), (190011, .arr hd101 65 6 true (List.map RateSheet.enc rg22)), (133, .arr hd102 3 1 true (List.map I ([1]))), (15, .cells b4 [.d (I ra46.fLo), .d (I ra46.fHi)]), (139, .arr hd108 3 1 true (List.map I ([3]))), (17, .cells b6 [.d (I ra50.fLo), .d (I ra50.fHi)]), (145, .arr hd114 3 1 true (List.map I ([2, 1]))), (19, .cells b8 [.d (I ra54.fLo), .d (I ra54.fHi)])] (fun y => .agg [.d (I ra59), .d (I rb59), .d (I rc39), .d (I rd31), .d (I re31), .sl 40190002 y.1, .sl 40190011 y.2, .nils 1]) (fun y => [(40190002, .arr y.1 3 1 false (List.map I rf31)), (40190011, .arr y.2 65 6 false (List.map RateSheet.enc rg31)), (30190002, .arr hd121 3 1 false (List.map I rf30)), (30190011, .arr hd122 65 6 false (List.map RateSheet.enc rg30)), (20190002, .arr hd112 3 1 true (List.map I rf26)), (20190011, .arr hd113 65 6 true (List.map RateSheet.enc rg26)), (10190002, .arr hd106 3 1 true (List.map I rf24)), (10190011, .arr hd107 65 6 true (List.map RateSheet.enc rg24)), (190002, .arr hd100 3 1 true (List.map I rf22)), (190011, .arr hd101 65 6 true (List.map RateSheet.enc rg22)), (133, .arr hd102 3 1 true (List.map I ([1]))), (15, .cells b4 [.d (I ra46.fLo), .d (I ra46.fHi)]), (139, .arr hd108 3 1 true (List.map I ([3]))), (17, .cells b6 [.d (I ra50.fLo), .d (I ra50.fHi)]), (145, .arr hd114 3 1 true (List.map I ([2, 1]))), (19, .cells b8 [.d (I ra54.fLo), .d (I ra54.fHi)])]) (all2_le_refl _) trivial rfl trivial (And.intro rfl (And.intro rfl (And.intro rfl (And.intro rfl (And.intro rfl (And.intro rfl (And.intro rfl (And.intro rfl (And.intro rfl (And.intro rfl (And.intro rfl (And.intro rfl (And.intro rfl (And.intro rfl trivial)))))))))))))) (fun _ => AV.le_agg (All2.cons (AV.le_refl _) (All2.cons (AV.le_refl _) (All2.cons (AV.le_refl _) (All2.cons (AV.le_refl _) (All2.cons (AV.le_refl _) (All2.cons (AV.le_key _ _ _) (All2.cons (AV.le_key _ _ _) (All2.cons (AV.le_refl _) (All2.nil)))))))))) (fun _ => rfl) ?_
     rintro ⟨hd123, hd124⟩ _
     obtain ⟨⟨ra60, rb60, rc40, rd32, re32, rf32, rg32⟩, hx69, h⟩ := obind h
     conv => whnf
     refine CallG.own (law07SeasonC hN hx69) (fun k => (cond (Nat.beq k 190011) 50190011 (cond (Nat.beq k 190002) 50190002 k))) [(40190002, .arr hd123 3 1 false (List.map I rf31)), (40190011, .arr hd124 65 6 false (List.map RateSheet.enc rg31)), (30190002, .arr hd121 3 1 false (List.map I rf30)), (30190011, .arr hd122 65 6 false (List.map RateSheet.enc rg30)), (20190002, .arr hd112 3 1 true (List.map I rf26)), (20190011, .arr hd113 65 6 true (List.map RateSheet.enc rg26)), (10190002, .arr hd106 3 1 true (List.map I rf24)), (10190011, .arr hd107 65 6 true (List.map RateSheet.enc rg24)), (190002, .arr hd100 3 1 true (List.map I rf22)), (190011, .arr hd101 65 6 true (List.map RateSheet.enc rg22)), (133, .arr hd102 3 1 true (List.map I ([1]))), (15, .cells b4 [.d (I ra46.fLo), .d (I ra46.fHi)]), (139, .arr hd108 3 1 true (List.map I ([3]))), (17, .cells b6 [.d (I ra50.fLo), .d (I ra50.fHi)]), (145, .arr hd114 3 1 true (List.map I ([2, 1]))), (19, .cells b8 [.d (I ra54.fLo), .d (I ra54.fHi)])] (fun y => .agg [.d (I ra60), .d (I rb60), .d (I rc40), .d (I rd32), .d (I re32), .sl 50190002 y.1, .sl 50190011 y.2, .nils 1]) (fun y => [(50190002, .arr y.1 3 1 false (List.map I rf32)), (50190011, .arr y.2 65 6 false (List.map RateSheet.enc rg32)), (40190002, .arr hd123 3 1 false (List.map I rf31)), (40190011, .arr hd124 65 6 false (List.map RateSheet.enc rg31)), (30190002, .arr hd121 3 1 false (List.map I rf30)), (30190011, .arr hd122 65 6 false (List.map RateSheet.enc rg30)), (20190002, .arr hd112 3 1 true (List.map I rf26)), (20190011, .arr hd113 65 6 true (List.map RateSheet.enc rg26)), (10190002, .arr hd106 3 1 true (List.map I rf24)), (10190011, .arr hd107 65 6 true (List.map RateSheet.enc rg24)), (190002, .arr hd100 3 1 true (List.map I rf22)), (190011, .arr hd101 65 6 true (List.map RateSheet.enc rg22)), (133, .arr hd102 3 1 true (List.map I ([1]))), (15, .cells b4 [.d (I ra46.fLo), .d (I ra46.fHi)]), (139, .arr hd108 3 1 true (List.map I ([3]))), (17, .cells b6 [.d (I ra50.fLo), .d (I ra50.fHi)]), (145, .arr hd114 3 1 true (List.map I ([2, 1]))), (19, .cells b8 [.d (I ra54.fLo), .d (I ra54.fHi)])]) (all2_le_refl _) trivial rfl trivial (And.intro rfl (And.intro rfl (And.intro rfl (And.intro rfl (And.intro rfl (And.intro rfl (And.intro rfl (And.intro rfl (And.intro rfl (And.intro rfl (And.intro rfl (And.intro rfl (And.intro rfl (And.intro rfl (And.intro rfl (And.intro rfl trivial)))))))))))))))) (fun _ => AV.le_agg (All2.cons (AV.le_refl _) (All2.cons (AV.le_refl _) (All2.cons (AV.le_refl _) (All2.cons (AV.le_refl _) (All2.cons (AV.le_refl _) (All2.cons (AV.le_key _ _ _) (All2.cons (AV.le_key _ _ _) (All2.cons (AV.le_refl _) (All2.nil)))))))))) (fun _ => rfl) ?_
     rintro ⟨hd125, hd126⟩ _
     conv => whnf
     intro b12
     conv => whnf
     intro b13
     conv => whnf
     intro b14
     conv => whnf
     refine Side.mk rfl ?_
     conv => whnf
     refine Side.mk rfl ?_
     conv => whnf
     refine Side.mk rfl ?_
     conv => whnf
     refine Side.mk rfl ?_
     obtain ⟨x2, hx71, h⟩ := obind h
     conv => whnf
     refine Side.mk ⟨rfl, rfl⟩ (Need.mk (idx_need _ hx71) ?_)
     conv => whnf
     refine Side.mk ⟨rfl, rfl⟩ ⟨_, Int.natCast_nonneg _, idx_el _ hx71, ?_⟩
     conv => whnf
     refine Eqv.mk (List.map RateSheet.enc (List.set rg30 (Int.toNat 1) (RateSheet.mk 1 x2.fBowler x2.fWeek x2.fGames))) (set_map _ _ _ _ rfl) ?_
     conv => whnf
     refine Side.mk rfl ?_
     conv => whnf
     refine Side.mk rfl ?_
     obtain ⟨x4, hx73, h⟩ := obind h
     conv => whnf
     refine Side.mk ⟨rfl, rfl⟩ (Need.mk (idx_need _ hx73) ?_)
     conv => whnf
     refine IxG.mk 2 rfl (by decide) ?_
     conv => whnf
     refine Side.mk ⟨rfl, rfl⟩ ⟨_, Int.natCast_nonneg _, idx_el _ hx73, ?_⟩
     conv => whnf
     refine Eqv.mk (List.map RateSheet.enc (List.set rg32 (Int.toNat 0) ((RateSheet.mk x4.fNumber x4.fBowler x4.fWeek (Ar3.mk x4.fGames.a0 x4.fGames.a1 301))))) (set_map _ _ _ _ rfl) ?_
     obtain ⟨v3, hx81, h⟩ := obind h
     conv => whnf
     refine SeqG.mk Unit (fun y => [(0, .d (.bool v3))]) (fun y => []) (fun _ => True) ?_ ?_
     ·conv => whnf
      refine Br.mk (fun hc53 => ?_) (fun hc53 => ?_)
      ·replace hx81 := ite_t hc53 hx81
       conv => whnf
       refine Br.mk (fun hc54 => ?_) (fun hc54 => ?_)
       ·replace hx81 := ite_t hc54 hx81
        conv => whnf
        refine Br.mk (fun hc55 => ?_) (fun hc55 => ?_)
        ·replace hx81 := ite_t hc55 hx81
         conv => whnf
         refine Br.mk (fun hc56 => ?_) (fun hc56 => ?_)
         ·replace hx81 := ite_t hc56 hx81
          conv => whnf
          refine Br.mk (fun hc57 => ?_) (fun hc57 => ?_)
          ·replace hx81 := ite_t hc57 hx81
           conv => whnf
           refine Br.mk (fun hc58 => ?_) (fun hc58 => ?_)
           ·replace hx81 := ite_t hc58 hx81
            conv => whnf
            refine Br.mk (fun hc59 => ?_) (fun hc59 => ?_)
            ·replace hx81 := ite_t hc59 hx81
             conv => whnf
             refine Br.mk (fun hc60 => ?_) (fun hc60 => ?_)
             ·replace hx81 := ite_t hc60 hx81
              conv => whnf
              refine Br.mk (fun hc61 => ?_) (fun hc61 => ?_)
              ·replace hx81 := ite_t hc61 hx81
               conv => whnf
               refine Side.mk rfl ?_
               obtain ⟨r11, hx82, hx81⟩ := obind hx81
               conv => whnf
               refine Side.mk rfl ?_
               conv => whnf
               refine Side.mk rfl ?_
               conv => whnf
               refine CallG.pure _ (rateCheckBookC hN hx82) ?_
               conv => whnf
               refine Br.mk (fun hc62 => ?_) (fun hc62 => ?_)
               ·replace hx81 := ite_t hc62 hx81
                conv => whnf
                refine Side.mk rfl ?_
                obtain ⟨r12, hx83, hx81⟩ := obind hx81
                conv => whnf
                refine Side.mk rfl ?_
                conv => whnf
                refine Side.mk rfl ?_
                conv => whnf
                refine CallG.pure _ (rateCheckBookC hN hx83) ?_
                conv => whnf
                refine Br.mk (fun hc63 => ?_) (fun hc63 => ?_)
                ·replace hx81 := ite_t hc63 hx81
                 conv => whnf
                 refine Side.mk rfl ?_
                 obtain ⟨r13, hx84, hx81⟩ := obind hx81
                 conv => whnf
                 refine Side.mk rfl ?_
                 conv => whnf
                 refine Side.mk rfl ?_
                 conv => whnf
                 refine CallG.pure _ (rateCheckBookC hN hx84) ?_
                 conv => whnf
                 refine Br.mk (fun hc64 => ?_) (fun hc64 => ?_)
                 ·replace hx81 := ite_t hc64 hx81
                  obtain ⟨r14, hx85, hx81⟩ := obind hx81
                  conv => whnf
                  refine CallG.pure _ (rateCheckBookC hN hx85) ?_
                  conv => whnf
                  refine Br.mk (fun hc65 => ?_) (fun hc65 => ?_)
                  ·replace hx81 := ite_t hc65 hx81
                   obtain ⟨l4, hx86, hx81⟩ := obind hx81
                   conv => whnf
                   refine Need.mk (mkl_need hN hx86 (by decide)) (Eqv.mk (List.map I l4) (mkl_map _ hx86 rfl) ?_)
                   conv => whnf
                   intro hd128
                   conv => whnf
                   refine Side.mk rfl ?_
                   obtain ⟨r15, hx87, hx81⟩ := obind hx81
                   conv => whnf
                   refine CallG.pure _ (rateCheckBookC hN hx87) ?_
                   conv => whnf
                   refine Br.mk (fun hc66 => ?_) (fun hc66 => ?_)
                   ·replace hx81 := ite_t hc66 hx81
                    obtain ⟨r16, hx88, hx81⟩ := obind hx81
                    conv => whnf
                    refine CallG.pure _ (law07WakesC hN hx88) ?_
                    cases hx81
                    conv => whnf
                    refine ⟨(), trivial, Sub.eq rfl ?_ ?_⟩
                    ·repeat ((conv => whnf); refine Need.mk rfl ?_)
                     exact trivial
                    ·exact trivial
                   ·replace hx81 := ite_f hc66 hx81
                    cases hx81
                    conv => whnf
                    refine ⟨(), trivial, Sub.eq rfl ?_ ?_⟩
                    ·repeat ((conv => whnf); refine Need.mk rfl ?_)
                     exact trivial
                    ·exact trivial
                  ·replace hx81 := ite_f hc65 hx81
                   cases hx81
                   conv => whnf
                   refine ⟨(), trivial, Sub.eq rfl ?_ ?_⟩
                   ·repeat ((conv => whnf); refine Need.mk rfl ?_)
                    exact trivial
                   ·exact trivial
                 ·replace hx81 := ite_f hc64 hx81
                  cases hx81
                  conv => whnf
                  refine ⟨(), trivial, Sub.eq rfl ?_ ?_⟩
                  ·repeat ((conv => whnf); refine Need.mk rfl ?_)
                   exact trivial
                  ·exact trivial
                ·replace hx81 := ite_f hc63 hx81
                 cases hx81
                 conv => whnf
                 refine ⟨(), trivial, Sub.eq rfl ?_ ?_⟩
                 ·repeat ((conv => whnf); refine Need.mk rfl ?_)
                  exact trivial
                 ·exact trivial
               ·replace hx81 := ite_f hc62 hx81
                cases hx81
                conv => whnf
                refine ⟨(), trivial, Sub.eq rfl ?_ ?_⟩
                ·repeat ((conv => whnf); refine Need.mk rfl ?_)
                 exact trivial
                ·exact trivial
              ·replace hx81 := ite_f hc61 hx81
               cases hx81
               conv => whnf
               refine ⟨(), trivial, Sub.eq rfl ?_ ?_⟩
               ·repeat ((conv => whnf); refine Need.mk rfl ?_)
                exact trivial
               ·exact trivial
             ·replace hx81 := ite_f hc60 hx81
              cases hx81
              conv => whnf
              refine ⟨(), trivial, Sub.eq rfl ?_ ?_⟩
              ·repeat ((conv => whnf); refine Need.mk rfl ?_)
               exact trivial
              ·exact trivial
            ·replace hx81 := ite_f hc59 hx81
             cases hx81
             conv => whnf
             refine ⟨(), trivial, Sub.eq rfl ?_ ?_⟩
             ·repeat ((conv => whnf); refine Need.mk rfl ?_)
              exact trivial
             ·exact trivial
           ·replace hx81 := ite_f hc58 hx81
            cases hx81
            conv => whnf
            refine ⟨(), trivial, Sub.eq rfl ?_ ?_⟩
            ·repeat ((conv => whnf); refine Need.mk rfl ?_)
             exact trivial
            ·exact trivial
          ·replace hx81 := ite_f hc57 hx81
           cases hx81
           conv => whnf
           refine ⟨(), trivial, Sub.eq rfl ?_ ?_⟩
           ·repeat ((conv => whnf); refine Need.mk rfl ?_)
            exact trivial
           ·exact trivial
         ·replace hx81 := ite_f hc56 hx81
          cases hx81
          conv => whnf
          refine ⟨(), trivial, Sub.eq rfl ?_ ?_⟩
          ·repeat ((conv => whnf); refine Need.mk rfl ?_)
           exact trivial
          ·exact trivial
        ·replace hx81 := ite_f hc55 hx81
         cases hx81
         conv => whnf
         refine ⟨(), trivial, Sub.eq rfl ?_ ?_⟩
         ·repeat ((conv => whnf); refine Need.mk rfl ?_)
          exact trivial
         ·exact trivial
       ·replace hx81 := ite_f hc54 hx81
        cases hx81
        conv => whnf
        refine ⟨(), trivial, Sub.eq rfl ?_ ?_⟩
        ·repeat ((conv => whnf); refine Need.mk rfl ?_)
         exact trivial
        ·exact trivial
      ·replace hx81 := ite_f hc53 hx81
       cases hx81
       conv => whnf
       refine ⟨(), trivial, Sub.eq rfl ?_ ?_⟩
       ·repeat ((conv => whnf); refine Need.mk rfl ?_)
        exact trivial
       ·exact trivial
     ·rintro _ _
      conv => whnf
      cases h
      exact rfl
end Go.Proofs.Ytmencjafjcmbaaa
