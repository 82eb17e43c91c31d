/-
  The walk of the law DeskPlays.
-/
import Derived.Test.YtdodahpkpeodfaaGreatDoorVe
import Derived.Test.YtdodahpkpeodfaaGreatDoorVk
import Derived.Test.YtdodahpkpeodfaaGreatDoorDDeskPlays
import Derived.Test.YtdodahpkpeodfaaGreatDoorWe
namespace Go.Proofs.YtdodahpkpeodfaaGreatDoor
open Go Go.Abs Go.Kp
set_option maxRecDepth 100000
set_option maxHeartbeats 8000000
set_option linter.all false
theorem jR{N:Nat}(hN:N≤1073741824) {r:Bool}(h:cL N=some r) :
    ACalls Tryz.prog 9 [] [] fun e os=>e=.ret (.d (.bool r))∧os=[]:=by
  refine ah (fresh:=false) al ap ⟨[],[],[],[],[6],0,[]⟩ Tryz.func9 rfl Tryz.call9 rfl ?_
  unfold cL at h
  obtain⟨r2,hx4,h⟩:=obind h;(conv=>whnf);refine CallG.fresh 16 (i6 hN hx4) ?_;intro hd4;(conv=>whnf);intro hd5;obtain⟨l2,hx5,h⟩:=obind h;(conv=>whnf);refine Side.mk ⟨rfl,rfl⟩ ?_;(conv=>whnf);refine Side.mk ⟨rfl,rfl,rfl⟩ (Need.mk (app_need hN hx5 (by decide)) (Eqv.mk (List.map D.str l2) (app_map _ hx5) ?_));(conv=>whnf);intro hd6;obtain⟨⟨ra2,rb2,rc2⟩,hx6,h⟩:=obind h;refine ws ?_;(conv=>whnf);refine CallG.pure _ (uk hN hx6) ?_;(conv=>whnf);intro b2;refine ws ?_;obtain⟨r4,hx10,h⟩:=obind h;(conv=>whnf);refine CallG.fresh 24 (i6 hN hx10) ?_;intro hd8;obtain⟨l4,hx11,h⟩:=obind h;refine ws ?_;(conv=>whnf);refine Need.mk (slc_need _ hx11) (Eqv.mk (List.map D.str l4) (slc_map _ hx11) ?_);obtain⟨⟨ra4,rb4,rc4,rd2⟩,hx12,h⟩:=obind h;(conv=>whnf);refine CallG.pure _ (F1 hN hx12) ?_
  obtain⟨r6,hx15,h⟩:=obind h;(conv=>whnf);refine CallG.fresh 32 (i6 hN hx15) ?_;intro hd10;obtain⟨⟨ra6,rb6,rc6⟩,hx16,h⟩:=obind h;refine ws ?_;(conv=>whnf);refine CallG.pure _ (Gn hN hx16) ?_;obtain⟨r8,hx20,h⟩:=obind h;(conv=>whnf);refine CallG.fresh 38 (i6 hN hx20) ?_;intro hd12;obtain⟨l6,hx21,h⟩:=obind h;refine ws ?_;(conv=>whnf);refine Need.mk (slc_need _ hx21) (Eqv.mk (List.map D.str l6) (slc_map _ hx21) ?_);obtain⟨⟨ra8,rb8⟩,hx22,h⟩:=obind h;(conv=>whnf);refine CallG.pure _ (ru hN hx22) ?_;(conv=>whnf);intro hd14;obtain⟨⟨ra10,rb10⟩,hx24,h⟩:=obind h;refine ws ?_;(conv=>whnf);refine CallG.pure _ (ol hN hx24) ?_;obtain⟨v2,hx31,h⟩:=obind h;(conv=>whnf);refine SeqG.mk Unit (fun y=>[(0,.d (.bool v2))]) (fun y=>[]) (fun _=>True) ?_ ?_
  ·refine wB (fun hc18=>?_) (fun hc18=>?_)
   ·replace hx31:=ite_t hc18 hx31;(conv=>whnf);refine LnA.mk _ (List.length_map _) ?_;refine wB (fun hc19=>?_) (fun hc19=>?_)
    ·replace hx31:=ite_t hc19 hx31;obtain⟨x6,hx32,hx31⟩:=obind hx31;(conv=>whnf);refine Side.mk rfl ⟨_,idx_0 hx32,idx_map _ hx32,?_⟩;refine wB (fun hc20=>?_) (fun hc20=>?_)
     ·replace hx31:=ite_t hc20 hx31;obtain⟨x7,hx33,hx31⟩:=obind hx31;(conv=>whnf);refine Side.mk rfl ⟨_,idx_0 hx33,idx_map _ hx33,?_⟩;refine wB (fun hc21=>?_) (fun hc21=>?_)
      ·replace hx31:=ite_t hc21 hx31;obtain⟨x8,hx34,hx31⟩:=obind hx31;(conv=>whnf);refine Side.mk rfl ⟨_,idx_0 hx34,idx_map _ hx34,?_⟩;refine wB (fun hc22=>?_) (fun hc22=>?_)
       ·replace hx31:=ite_t hc22 hx31;obtain⟨x9,hx35,hx31⟩:=obind hx31;(conv=>whnf);refine Side.mk rfl ⟨_,idx_0 hx35,idx_map _ hx35,?_⟩;refine wB (fun hc23=>?_) (fun hc23=>?_)
        ·replace hx31:=ite_t hc23 hx31;obtain⟨x10,hx36,hx31⟩:=obind hx31;(conv=>whnf);refine Side.mk rfl ⟨_,idx_0 hx36,idx_map _ hx36,?_⟩;refine wB (fun hc24=>?_) (fun hc24=>?_)
         ·replace hx31:=ite_t hc24 hx31;refine wB (fun hc25=>?_) (fun hc25=>?_)
          ·replace hx31:=ite_t hc25 hx31;(conv=>whnf);intro hd16;obtain⟨r10,hx37,hx31⟩:=obind hx31;refine ws ?_;(conv=>whnf);refine CallG.pure _ (su hN hx37) ?_;refine wB (fun hc26=>?_) (fun hc26=>?_)
           ·replace hx31:=ite_t hc26 hx31;refine wB (fun hc27=>?_) (fun hc27=>?_)
            ·replace hx31:=ite_t hc27 hx31;refine wB (fun hc28=>?_) (fun hc28=>?_)
             ·replace hx31:=ite_t hc28 hx31;refine wB (fun hc29=>?_) (fun hc29=>?_)
              ·replace hx31:=ite_t hc29 hx31;refine wB (fun hc30=>?_) (fun hc30=>?_)
               ·replace hx31:=ite_t hc30 hx31;refine wB (fun hc31=>?_) (fun hc31=>?_)
                ·replace hx31:=ite_t hc31 hx31;refine wB (fun hc32=>?_) (fun hc32=>?_)
                 ·replace hx31:=ite_t hc32 hx31;refine wB (fun hc33=>?_) (fun hc33=>?_)
                  ·replace hx31:=ite_t hc33 hx31;refine wB (fun hc34=>?_) (fun hc34=>?_)
                   ·replace hx31:=ite_t hc34 hx31;refine ws ?_;(conv=>whnf);refine StrG.mk ra10 rfl ?_;cases hx31;(conv=>whnf);exact⟨(),trivial,b9⟩
                   ·replace hx31:=ite_f hc34 hx31;cases hx31;(conv=>whnf);exact⟨(),trivial,b9⟩
                  ·replace hx31:=ite_f hc33 hx31;cases hx31;(conv=>whnf);exact⟨(),trivial,b9⟩
                 ·replace hx31:=ite_f hc32 hx31;cases hx31;(conv=>whnf);exact⟨(),trivial,b9⟩
                ·replace hx31:=ite_f hc31 hx31;cases hx31;(conv=>whnf);exact⟨(),trivial,b9⟩
               ·replace hx31:=ite_f hc30 hx31;cases hx31;(conv=>whnf);exact⟨(),trivial,b9⟩
              ·replace hx31:=ite_f hc29 hx31;cases hx31;(conv=>whnf);exact⟨(),trivial,b9⟩
             ·replace hx31:=ite_f hc28 hx31;cases hx31;(conv=>whnf);exact⟨(),trivial,b9⟩
            ·replace hx31:=ite_f hc27 hx31;cases hx31;(conv=>whnf);exact⟨(),trivial,b9⟩
           ·replace hx31:=ite_f hc26 hx31;cases hx31;(conv=>whnf);exact⟨(),trivial,b9⟩
          ·replace hx31:=ite_f hc25 hx31;cases hx31;(conv=>whnf);exact⟨(),trivial,b9⟩
         ·replace hx31:=ite_f hc24 hx31;cases hx31;(conv=>whnf);exact⟨(),trivial,b9⟩
        ·replace hx31:=ite_f hc23 hx31;cases hx31;(conv=>whnf);exact⟨(),trivial,b9⟩
       ·replace hx31:=ite_f hc22 hx31;cases hx31;(conv=>whnf);exact⟨(),trivial,b9⟩
      ·replace hx31:=ite_f hc21 hx31;cases hx31;(conv=>whnf);exact⟨(),trivial,b9⟩
     ·replace hx31:=ite_f hc20 hx31;cases hx31;(conv=>whnf);exact⟨(),trivial,b9⟩
    ·replace hx31:=ite_f hc19 hx31;cases hx31;(conv=>whnf);exact⟨(),trivial,b9⟩
   ·replace hx31:=ite_f hc18 hx31;cases hx31;(conv=>whnf);exact⟨(),trivial,b9⟩
  ·rintro _ _;(conv=>whnf);cases h;exact rfl
theorem Ez{N:Nat}(hN:N≤1073741824){lines1:List (List UInt8)}{r:Bool}(h:BZ N lines1=some r) :
    ACalls Tryz.prog 3 [.d (.list 1 (List.map D.str lines1))] [] fun e os=>e=.ret (.d (.bool r))∧os=[]:=by
  refine ah (fresh:=false) al ap ⟨[],[],[],[],[6,8,1010],0,[]⟩ Tryz.func3 rfl Tryz.call3 rfl ?_
  unfold BZ at h
  repeat' ((conv=>whnf)<;>first|refine u (k:=?_)|exact v|refine cp (sf hN am) ?_|refine cp (jR hN am) ?_|refine cf 16 16 (sv hN am) ?_|refine cp (uk hN am) ?_|refine cp (FP hN am) ?_|refine sq0 6 h [] (fun x=>[(2,.d (.bool x))]) ?_ ?_|refine cp (Gq hN am) ?_|refine cp (Gy hN am) ?_|refine sq0 8 h [4,8] (fun x=>[(59,.d (.bool x))]) ?_ ?_|refine cp (Gz hN am) ?_|refine st0 1010 (F:=C7 (Bx N)) r [] (fun y=>[]) ?_ ?_|refine lp0 11 h [4,8] (fun y=>[(9,.d (I y.x))]) ?_ ?_|refine dr 0 66 (tkA 9 0 .done) rfl (by kernel_rfl) ?_|(rw[zl]at h;delta w64 at h)|unfold Bx at h|intro _|refine Br.mk (fun _=>?_) fun _=>?_|refine TyG.mk fun _ h=>?_|(refine hs h ?_;intro _ _ h)|fail)
