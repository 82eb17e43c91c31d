/-
  The law DeskWorths of the program returns true for every input, and leaves its arguments as they were. No condition.
-/
import Derived.Test.YtdodahpkpeodfaaGreatDoorJA
import Derived.Test.YtdodahpkpeodfaaGreatDoorJB
import Derived.Test.YtdodahpkpeodfaaGreatDoorTie
import Derived.Test.YtdodahpkpeodfaaGreatDoorCards
import Derived.Test.YtdodahpkpeodfaaGreatDoorTab
import Derived.Stop.Joined
import Derived.Test.YtdodahpkpeodfaaGreatDoorWDeskWorths
import Derived.Test.YtdodahpkpeodfaaGreatDoorPX
namespace Go.Proofs.YtdodahpkpeodfaaGreatDoor.deskWorthsProof
open Go.ChangeShapes Go.WideShapes Go.ChangeAt Go.RowKit Go.Joins Go.Abs
open Go.ChangeMaps (open_string shut_string)
set_option linter.all false

theorem own:ownKnob Tryz.prog.godebug=none:=by kernel_rfl
theorem laidOut:laidOutB Tryz.prog=true:=by kernel_rfl

set_option maxRecDepth 100000 in
theorem lifted(os:Os)(started:os.Started)(H:Type)(enc:TypeId×Value→H) :
    ReturnsInHanded {} Tryz.checked os 5 .any (fun w args=>(Rows.deskWorthsSpec.pre enc Tryz.prog Tryz.f5 Rows.deskWorthsRow.domain false w args∧laidMetH Tryz.prog LV w)∧sizedMet enc Tryz.prog Tryz.f5 (OpenSpec.ofChange Rows.deskWorthsSpec) false w args) (Rows.deskWorthsSpec.post enc Tryz.prog Tryz.f5 false true false false):=by
  refine nI (C:=Tryz.checked) (X:=fun w _=>laidMetH Tryz.prog LV w) (fun _ _ _ hh h=>h.of_heap hh) own started (by kernel_rfl) Tryz.func5
    (ChangeSpec.witness_shaped (enc:=enc) (C:=Tryz.checked) (os:=os) (X:=fun w _=>laidMetH Tryz.prog LV w) false (World.laidAll Tryz.prog os LV) #[.slice none 0 0,.int .i64 0,.int .i64 0] 8 (World.laidAll_os _ _ _)
      (World.shaped_of_ZipB (by kernel_rfl) (by kernel_rfl)) (by kernel_rfl) (by kernel_rfl) (by kernel_rfl)
      (by rw[MakeChecks.laidMetH_plain _ _ _ (by kernel_rfl)];exact laidMet_laidAll _ (by kernel_rfl) (by kernel_rfl))) ?_
  intro W base args ds gs before hsh hval0 hW hL
  have hval:∀(j:Nat) t v,Tryz.f5.params[j]? = some t→args[j]? = some v→Value.okWide Tryz.prog W .any base t v:=hval0
  have hW':=hW
  obtain⟨p,q,hA0,hV,rfl,hfz,hnd⟩:=hW
  have hA:DataW.TrodAll enc Tryz.prog W 0 (fun _=>true) true Tryz.f5.params.toList args.toList ds p:=hA0
  rw[Tryz.params5]at hA hval
  obtain⟨v0,vs0,d0,ds0,p0,q0,hargs,rfl,rfl,h0,r0⟩:=trodAll_cons hA
  obtain⟨v1,vs1,d1,ds1,p1,q1,rfl,rfl,rfl,h1,r1⟩:=trodAll_cons r0
  obtain⟨v2,vs2,d2,ds2,p2,q2,rfl,rfl,rfl,h2,r2⟩:=trodAll_cons r1
  obtain⟨rfl,rfl,rfl⟩:=trodAll_nil r2
  obtain rfl:args=#[v0,v1,v2]:=by cases args;simp_all
  obtain⟨rfl,rfl⟩:=trodVars_none hV
  have k0:=h0
  have lt0:∀x∈p0,x.block<W.heap.size:=by obtain⟨m,hm⟩:=k0;exact DataW.trod_lt m _ _ _ hm
  obtain⟨c0,ft0,hg0⟩:=qX 2 (by kernel_rfl) (hval 0 22 v0 rfl rfl) h0
  obtain⟨x0,rfl,fx0⟩:=xg (F:=2) (by omega) ft0
  have e0:KC Tryz.prog 22=false:=by unfold KC;rw[Tryz.underlying22]
  rw[e0]at hg0
  have k1:=h1
  have lt1:∀x∈p1,x.block<W.heap.size:=by obtain⟨m,hm⟩:=k1;exact DataW.trod_lt m _ _ _ hm
  obtain⟨c1,ft1,hg1⟩:=qX 1 (by kernel_rfl) (hval 1 3 v1 rfl rfl) h1
  obtain⟨x1,rfl,fx1⟩:=Kz (F:=1) (by omega) ft1
  have e1:KC Tryz.prog 3=false:=by unfold KC;rw[Tryz.underlying3]
  rw[e1]at hg1
  have k2:=h2
  have lt2:∀x∈p2,x.block<W.heap.size:=by obtain⟨m,hm⟩:=k2;exact DataW.trod_lt m _ _ _ hm
  obtain⟨c2,ft2,hg2⟩:=qX 1 (by kernel_rfl) (hval 2 3 v2 rfl rfl) h2
  obtain⟨x2,rfl,fx2⟩:=Kz (F:=1) (by omega) ft2
  have e2:KC Tryz.prog 3=false:=by unfold KC;rw[Tryz.underlying3]
  rw[e2]at hg2
  clear hA0 hval0
  refine(tU (Ko (N:=30000) (by omega) (Lr x0 x1 x2)) (All2.cons hg0 (All2.cons hg1 (All2.cons hg2 All2.nil))) (w9 hsh hL)).mono fun e W' ⟨he,bel⟩=>?_
  subst he
  exact⟨_,rfl,_,_,_,[],_,[],hW',trodAll_mk1 (shut_bool Tryz.underlying4 _),(trodAll_cons_mk (Below.trod laidOut (by kernel_rfl) (of_decide_eq_true (by kernel_rfl)) k0 bel lt0) (trodAll_cons_mk (Below.trod laidOut (by kernel_rfl) (of_decide_eq_true (by kernel_rfl)) k1 bel lt1) (trodAll_cons_mk (Below.trod laidOut (by kernel_rfl) (of_decide_eq_true (by kernel_rfl)) k2 bel lt2) trodAll_mk0))),rfl,bel.frame _,fun h=>by cases h⟩

set_option maxRecDepth 100000 in
theorem jf:joinedFacts Tryz.prog 5 Tryz.f5 Rows.deskWorthsSpec Rows.deskWorthsRow=true:=by
  simp only[joinedFacts,Bool.and_eq_true]
  exact⟨⟨⟨⟨⟨⟨⟨⟨⟨⟨⟨⟨⟨⟨⟨⟨⟨⟨⟨⟨⟨⟨⟨⟨⟨⟨⟨⟨⟨⟨⟨jf0,jf1⟩,jf2⟩,jf3⟩,jf4⟩,jf5⟩,jf6⟩,jf7⟩,jf8⟩,jf9⟩,xv⟩,xw⟩,xx⟩,xy⟩,xz⟩,xA⟩,xB⟩,xC⟩,xD⟩,xE⟩,xF⟩,xG⟩,xH⟩,xI⟩,xJ⟩,xq⟩,xr⟩,xu⟩,xK⟩,xL⟩,xM⟩,xN⟩
set_option maxRecDepth 100000 in
theorem over:Rows.DeskWorthsSaid :=
  OpenClaim.holds_of_wide 5 Tryz.f5 rfl rfl rfl rfl rfl rfl rfl ⟨rfl,rfl,rfl,rfl,rfl⟩ rfl rfl rfl rfl rfl kf4 Tryz.func5 jf
    (of_decide_eq_true (by kernel_rfl)) (by unfold Func.isWrapper;first | (rw[if_pos (by decide +kernel)];kernel_rfl) | (rw[if_neg (by decide +kernel)];exact⟨rfl,rfl⟩))
    (fun os started H enc _=>lifted os started H enc)

set_option maxRecDepth 100000 in
theorem proved:Rows.DeskWorthsCardSaid :=
  Claim7.holds_tied_plain_at .later [] [.data,.data,.data,.data,.sentinel,.sentinel,.pinned] true (true,"2ffcd3cc8198143c6672cb636acfa665281f2eff72f2669f121eef0aebcdf0ba") true over (fun _ h=>by cases h) kf0 (fun _ h=>by cases h) deskWorths_row_tie rfl ⟨rfl,rfl⟩ kf1 rfl
    (fun f fn hf hfn=>by
      obtain rfl:f=5:=(Option.some.inj (kf4.symm.trans hf)).symm
      obtain rfl:fn=Tryz.f5:=(Option.some.inj (Tryz.func5.symm.trans hfn)).symm
      exact⟨kf2,fun j t ht=>by
        rw[Tryz.params5]at ht
        have hm:t∈[22,3,3]:=by simpa using Array.mem_of_getElem? ht
        have hall:([22,3,3].all fun u=>!Tryz.prog.wantsStandIn u)=true:=by kernel_rfl
        exact(show Tryz.prog.wantsStandIn t=false by simpa using List.all_eq_true.1 hall t hm)⟩)
    kf3
#print axioms proved
end Go.Proofs.YtdodahpkpeodfaaGreatDoor.deskWorthsProof
