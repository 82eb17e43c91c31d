/-
 The world at a call: its variables.
-/
import Derived.Test.YtdodahpkpeodfaaGreatDoorWe
import Derived.Test.YtdodahpkpeodfaaGreatDoorOpen
import Derived.Test.YtdodahpkpeodfaaGreatDoorBr
import Derived.LaidMore
import Derived.Lay
import Derived.SevenTiedAt
import Derived.Stop.LaidErr
import Derived.Test.YtdodahpkpeodfaaGreatDoorRows
import Derived.Shelf.Vars
set_option linter.all false
open List renaming getElem?_eq_getElem→IX,getElem?_eq_none→AG,getElem?_map→Jr
namespace Go.Proofs.YtdodahpkpeodfaaGreatDoor
open Go Go.Abs Go.Kp
set_option maxRecDepth 100000
set_option maxHeartbeats 64000000
set_option linter.all false
theorem xp{F:Nat}(hF:1≤F){ds:List D}(h:Fit Tryz.prog F 9 ds):∃x:List UInt8,ds=cellsOf (.str x)∧(True):=by
 obtain⟨F,rfl⟩:∃G,F=G+1:=⟨F-1,by omega⟩
 unfold Fit at h
 rw[Tryz.underlying9]at h
 obtain⟨n,rfl⟩:=h
 exact⟨n,rfl,trivial⟩
theorem xg{F:Nat}(hF:2≤F){ds:List D}(h:Fit Tryz.prog F 22 ds):∃x:List (List UInt8),ds=cellsOf (.list 1 (List.map D.str x))∧(∀y0∈x,True):=by
 obtain⟨F,rfl⟩:∃G,F=G+1:=⟨F-1,by omega⟩
 unfold Fit at h
 rw[Tryz.underlying22]at h
 obtain⟨xs,rfl,hx⟩:=h
 have e1:KC Tryz.prog 9=false:=by unfold KC;rw[Tryz.underlying9]
 have e2:Tryz.prog.cellsOf 9=1:=by kernel_rfl
 rw[e1]at hx
 rw[e2]
 obtain⟨ys,rfl,hy⟩:∃ys:List (List UInt8),xs=List.map D.str ys∧∀y0∈ys,True:=by
  clear e1 e2
  induction xs with
  | nil=>exact⟨[],rfl,fun _ h=>by cases h⟩
  | cons x xs ih =>
   obtain⟨es,rfl,_,he⟩:=hx x (by simp)
   obtain⟨y,rfl,hy⟩:=xp (F:=F) (by omega) he
   obtain⟨ys,rfl,hys⟩:=ih fun z hz=>hx z (by simp[hz])
   refine⟨y::ys,rfl,fun z hz=>?_⟩
   rcases List.mem_cons.1 hz with rfl | hz
   ·exact hy
   ·exact hys z hz
 exact⟨ys,rfl,hy⟩
theorem Kz{F:Nat}(hF:1≤F){ds:List D}(h:Fit Tryz.prog F 3 ds):∃x:Int,ds=cellsOf (I x)∧(fits .i64 x):=by
 obtain⟨F,rfl⟩:∃G,F=G+1:=⟨F-1,by omega⟩
 unfold Fit at h
 rw[Tryz.underlying3]at h
 obtain⟨n,rfl,hn⟩:=h
 exact⟨n,rfl,hn⟩
end Go.Proofs.YtdodahpkpeodfaaGreatDoor
namespace Go.Abs
open Go Go.ChangeShapes Go.WideShapes Go.ChangeAt Go.RowKit
section
variable {H:Type}{enc:TypeId×Value→H}
theorem nI{a:Assume}{C:Checked}{os:Os}{f:FuncId}{fn:Func}{s:ChangeSpec}{conds:List PathCond}{apart fresh handsOn again:Bool}{X:World→Array Value→Prop}
  (hX:∀(w w':World) (args:Array Value),w.heap=w'.heap→X w args→X w' args)
  (own:ownKnob C.prog.godebug=none) (started:os.Started) (noInit:C.prog.inits.idxOf? f=none) (hfn:C.prog.funcs[f]? = some fn)
  (witness:∃(w:World) (tape:Tape) (i:Input),w.os=os∧(w.forCall tape i).Shaped C.prog∧i.vars=[]∧Input.okWide C.prog (w.forCall tape i) .any w.heap.size f i ∧
   ((s.pre enc C.prog fn conds apart (w.forCall tape i).memory i.args∧X (w.forCall tape i).memory i.args)∧sizedMet enc C.prog fn (OpenSpec.ofChange s) apart (w.forCall tape i).memory i.args)∧a.holds C.prog (lone (Frame.enter C.prog f i.args .normal) [] (w.forCall tape i)))
  (contract:∀(W:World) (base:Nat) (args:Array Value) (ds gs:List (DataW H)) (before:List MemPlace),W.ShapedOpen C.prog →
   (∀(j:Nat) t v,fn.params[j]? = some t→args[j]? = some v→Value.okWide C.prog W .any base t v) →
   DataW.Whole enc C.prog fn.params.toList s.vars apart W args.toList ds gs before →
   X W args →
   Calls C.prog f args W fun e W'=>∃v,e=.returned v∧s.post enc C.prog fn apart fresh handsOn again W args v W') :
  ReturnsInHanded a C os f .any (fun w args=>(s.pre enc C.prog fn conds apart w args∧X w args)∧sizedMet enc C.prog fn (OpenSpec.ofChange s) apart w args) (s.post enc C.prog fn apart fresh handsOn again):=by
 refine returnsInHanded_of_calls own started noInit witness ?_
 intro w tape i _ hsh _ hok hpre _
 obtain⟨_,_,_,fn',hfn',_,_,_,_,hval⟩:=hok
 have e:fn'=fn:=Option.some.inj (hfn'.symm.trans hfn)
 subst e
 obtain⟨⟨⟨ds,gs,before,hw,hc⟩,hx⟩,hz⟩:=hpre
 have hw':=DataW.Whole.of_heap (w':=w.forCall tape i) (by rfl) hw
 refine(contract (w.forCall tape i) w.heap.size i.args ds gs before hsh hval hw' (hX _ _ _ (by rfl) hx)).mono fun e W' ⟨v,he,hp⟩=>?_
 subst he
 exact ChangeSpec.post_blind hp
end
theorem nJ{P:Program}{W:World}{n:String}{g:Nat}{cs:Array Value}(hg:P.globalNamed n=some g)(h:W.var? P n=some cs):∃e fr,W.heap[g]? = some (.cells cs e fr):=by
 unfold World.var? at h
 rw[hg]at h
 simp only[Option.bind_some]at h
 split at h
 ·rename_i cs' e fr hh
  cases h;exact⟨e,fr,hh⟩
 ·cases h
theorem nK{P:Program}{w:World}{b0:Nat}{sp:Nat→Bool}{held:Bool}{fuel:Nat}{t:TypeId}{cs:List Value}{nm:String}{d:DataW Unit}{p:List MemPlace}{ms:Array (String×TypeId)}
  (hi:P.underlying t=some (.interface ms)) (h:DataW.trod (fun _=>()) P w b0 sp held fuel t cs=some (.iface nm d,p)):∃u v,cs=[.iface u v]:=by
 cases fuel with
 | zero=>simp[DataW.trod]at h
 | succ n =>
  unfold DataW.trod at h
  rw[hi]at h
  split at h<;>first | exact⟨_,_,rfl⟩ | simp_all
end Go.Abs
namespace Go.Proofs.YtdodahpkpeodfaaGreatDoor
open Go Go.Abs Go.ChangeShapes Go.WideShapes Go.ChangeAt Go.RowKit
def LV:List (String×DataW Unit):=[("math/bits.deBruijn32tab",Rows.laid_math_bits_deBruijn32tab),("math/bits.deBruijn64tab",Rows.laid_math_bits_deBruijn64tab),("internal/strconv.uint64pow10",Rows.laid_internal_strconv_uint64pow10),("unicode/utf8.acceptRanges",Rows.laid_unicode_utf8_acceptRanges),("strconv.ErrRange",Rows.laid_strconv_ErrRange),("strconv.ErrSyntax",Rows.laid_strconv_ErrSyntax),("unicode/utf8.first",Rows.laid_unicode_utf8_first)]
theorem pi{W:World}{g:Nat}{cs:Array Value}{e:TypeId}{fr:Nat×Nat}{v:Value}(h:W.heap[g]? = some (.cells cs e fr))(hv:cs[0]? = some v):(j4 W).c g 0=some v:=by
 show W.cell? ⟨g,0,none⟩=some v
 rw[Lib.cell_of_heap h];exact hv
theorem w9{W:World}(hsh:W.ShapedOpen Tryz.prog)(hL:laidMetH Tryz.prog LV W):Tab (j4 W):=by
 rw[MakeChecks.laidMetH_plain _ _ _ (by kernel_rfl)]at hL
 have h2:=hL.tail.tail
 have h4:=h2.tail.tail
 have h5:=h4.tail
 refine⟨?_,?_,?_,?_⟩
 ·obtain⟨ps,⟨g,t,cs,fuel,p,q,hg,ht,hv,hd,_,_⟩,_,_⟩:=h2
  obtain rfl:=Option.some.inj ((show Tryz.prog.globalNamed "internal/strconv.uint64pow10" = some 0 by kernel_rfl).symm.trans hg)
  obtain rfl:=Option.some.inj ((show(Tryz.prog.globals[0]?).map (·.type)=some 366 by kernel_rfl).symm.trans ht)
  obtain⟨e,fr,hh⟩:=nJ hg hv
  obtain⟨xs,m,_,ex,hcl,hl,hel⟩:=DataW.trod_array Tryz.underlying366 hd
  have c1:Tryz.prog.cellsOf 306=1:=by kernel_rfl
  have c2:Tryz.prog.cellsOf 366=20:=by kernel_rfl
  have u1:Tryz.prog.underlying 306=some (.int .u64):=by kernel_rfl
  rw[c2]at hcl
  have e3:(xs.map (·.1))=iC.map fun n=>.lit (.int .u64 n):=(DataW.agg.inj (Prod.mk.inj ex).1).symm
  have hcs:cs.toList=iC.map fun z=>Value.int .u64 z:=by
   refine List.ext_getElem? fun r=>?_
   by_cases hr:r<20
   ·have hE:=hel r hr
    rw[c1,Nat.mul_one,IX (by omega)]at hE
    obtain⟨z,e1,e2,_⟩:=DataW.trod_int u1 hE
    have e4:(xs.map (·.1))[r]? = (iC.map fun n=>(DataW.lit (.int .u64 n):DataW Unit))[r]?:=by rw[e3]
    have hlen:iC.length=20:=by kernel_rfl
    rw[Jr,Jr,IX (by omega:r<xs.length),IX (by omega:r<iC.length),e2]at e4
    simp only[Option.map_some,Option.some.injEq,DataW.lit.injEq,Lit.int.injEq,true_and]at e4
    have h0:((cs.toList.drop r).take 1)[0]? = some (.int .u64 z):=by rw[e1];rfl
    have h1:cs.toList[r]? = some (.int .u64 z):=by simpa using h0
    rw[h1,Jr,IX (by omega:r<iC.length),e4];rfl
   ·rw[AG (by omega),AG (by rw[List.length_map];have hlen:iC.length=20:=(by kernel_rfl);omega)]
  refine⟨e,fr,?_⟩
  have:cs=(iC.map fun z=>Value.int .u64 z).toArray:=by rw[← hcs]
  rw[← this]
  simp only[j4,hh,if_true]
 ·obtain⟨m,hm⟩:=Go.Proofs.cell_of_shapedOpen_int (zero:=#[.int .i64 0]) (t:=3) (g:=1) hsh (of_decide_eq_true (by kernel_rfl)) (by kernel_rfl) rfl (by kernel_rfl) (by kernel_rfl) Tryz.underlying3
  exact⟨m,hm⟩
 ·obtain⟨ps,⟨g,t,cs,fuel,p,q,hg,ht,hv,hd,_,_⟩,_,_⟩:=h5
  obtain rfl:=Option.some.inj ((show Tryz.prog.globalNamed "strconv.ErrSyntax" = some 2 by kernel_rfl).symm.trans hg)
  obtain rfl:=Option.some.inj ((show(Tryz.prog.globals[2]?).map (·.type)=some 128 by kernel_rfl).symm.trans ht)
  obtain⟨e,fr,hh⟩:=nJ hg hv
  obtain⟨u,v,hc⟩:=nK Tryz.underlying128 hd
  exact⟨_,pi hh (by rw[← Array.getElem?_toList,hc];rfl),.inr ⟨u,v,rfl⟩⟩
 ·obtain⟨ps,⟨g,t,cs,fuel,p,q,hg,ht,hv,hd,_,_⟩,_,_⟩:=h4
  obtain rfl:=Option.some.inj ((show Tryz.prog.globalNamed "strconv.ErrRange" = some 3 by kernel_rfl).symm.trans hg)
  obtain rfl:=Option.some.inj ((show(Tryz.prog.globals[3]?).map (·.type)=some 128 by kernel_rfl).symm.trans ht)
  obtain⟨e,fr,hh⟩:=nJ hg hv
  obtain⟨u,v,hc⟩:=nK Tryz.underlying128 hd
  exact⟨_,pi hh (by rw[← Array.getElem?_toList,hc];rfl),.inr ⟨u,v,rfl⟩⟩
