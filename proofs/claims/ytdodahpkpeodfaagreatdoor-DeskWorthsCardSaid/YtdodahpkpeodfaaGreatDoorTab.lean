/-
 The world at a call: its variables.
-/
import Derived.Test.YtdodahpkpeodfaaGreatDoorLay
import Derived.Test.YtdodahpkpeodfaaGreatDoorRows
import Derived.Shelf.Vars
set_option linter.all false
open List renaming getElem?_eq_getElem→IX,getElem?_eq_none→AG,getElem?_map→Jr
namespace Go.Proofs.YtdodahpkpeodfaaGreatDoor
open Go Go.Abs Go.ChangeShapes Go.WideShapes Go.ChangeAt Go.RowKit
def LV:List (String×DataW Unit):=[("math/bits.deBruijn32tab",Rows.laid_math_bits_deBruijn32tab),("math/bits.deBruijn64tab",Rows.laid_math_bits_deBruijn64tab),("internal/strconv.uint64pow10",Rows.laid_internal_strconv_uint64pow10),("unicode/utf8.acceptRanges",Rows.laid_unicode_utf8_acceptRanges),("strconv.ErrRange",Rows.laid_strconv_ErrRange),("strconv.ErrSyntax",Rows.laid_strconv_ErrSyntax),("unicode/utf8.first",Rows.laid_unicode_utf8_first)]
theorem pi{W:World}{g:Nat}{cs:Array Value}{e:TypeId}{fr:Nat×Nat}{v:Value}(h:W.heap[g]? = some (.cells cs e fr))(hv:cs[0]? = some v):(j4 W).c g 0=some v:=by
 show W.cell? ⟨g,0,none⟩=some v
 rw[Lib.cell_of_heap h];exact hv
theorem w9{W:World}(hsh:W.ShapedOpen Tryz.prog)(hL:laidMetH Tryz.prog LV W):Tab (j4 W):=by
 rw[MakeChecks.laidMetH_plain _ _ _ (by kernel_rfl)]at hL
 have h2:=hL.tail.tail
 have h4:=h2.tail.tail
 have h5:=h4.tail
 refine⟨?_,?_,?_,?_⟩
 ·obtain⟨ps,⟨g,t,cs,fuel,p,q,hg,ht,hv,hd,_,_⟩,_,_⟩:=h2
  obtain rfl:=Option.some.inj ((show Tryz.prog.globalNamed "internal/strconv.uint64pow10" = some 0 by kernel_rfl).symm.trans hg)
  obtain rfl:=Option.some.inj ((show(Tryz.prog.globals[0]?).map (·.type)=some 366 by kernel_rfl).symm.trans ht)
  obtain⟨e,fr,hh⟩:=nJ hg hv
  obtain⟨xs,m,_,ex,hcl,hl,hel⟩:=DataW.trod_array Tryz.underlying366 hd
  have c1:Tryz.prog.cellsOf 306=1:=by kernel_rfl
  have c2:Tryz.prog.cellsOf 366=20:=by kernel_rfl
  have u1:Tryz.prog.underlying 306=some (.int .u64):=by kernel_rfl
  rw[c2]at hcl
  have e3:(xs.map (·.1))=iC.map fun n=>.lit (.int .u64 n):=(DataW.agg.inj (Prod.mk.inj ex).1).symm
  have hcs:cs.toList=iC.map fun z=>Value.int .u64 z:=by
   refine List.ext_getElem? fun r=>?_
   by_cases hr:r<20
   ·have hE:=hel r hr
    rw[c1,Nat.mul_one,IX (by omega)]at hE
    obtain⟨z,e1,e2,_⟩:=DataW.trod_int u1 hE
    have e4:(xs.map (·.1))[r]? = (iC.map fun n=>(DataW.lit (.int .u64 n):DataW Unit))[r]?:=by rw[e3]
    have hlen:iC.length=20:=by kernel_rfl
    rw[Jr,Jr,IX (by omega:r<xs.length),IX (by omega:r<iC.length),e2]at e4
    simp only[Option.map_some,Option.some.injEq,DataW.lit.injEq,Lit.int.injEq,true_and]at e4
    have h0:((cs.toList.drop r).take 1)[0]? = some (.int .u64 z):=by rw[e1];rfl
    have h1:cs.toList[r]? = some (.int .u64 z):=by simpa using h0
    rw[h1,Jr,IX (by omega:r<iC.length),e4];rfl
   ·rw[AG (by omega),AG (by rw[List.length_map];have hlen:iC.length=20:=(by kernel_rfl);omega)]
  refine⟨e,fr,?_⟩
  have:cs=(iC.map fun z=>Value.int .u64 z).toArray:=by rw[← hcs]
  rw[← this]
  simp only[j4,hh,if_true]
 ·obtain⟨m,hm⟩:=Go.Proofs.cell_of_shapedOpen_int (zero:=#[.int .i64 0]) (t:=3) (g:=1) hsh (of_decide_eq_true (by kernel_rfl)) (by kernel_rfl) rfl (by kernel_rfl) (by kernel_rfl) Tryz.underlying3
  exact⟨m,hm⟩
 ·obtain⟨ps,⟨g,t,cs,fuel,p,q,hg,ht,hv,hd,_,_⟩,_,_⟩:=h5
  obtain rfl:=Option.some.inj ((show Tryz.prog.globalNamed "strconv.ErrSyntax" = some 2 by kernel_rfl).symm.trans hg)
  obtain rfl:=Option.some.inj ((show(Tryz.prog.globals[2]?).map (·.type)=some 128 by kernel_rfl).symm.trans ht)
  obtain⟨e,fr,hh⟩:=nJ hg hv
  obtain⟨u,v,hc⟩:=nK Tryz.underlying128 hd
  exact⟨_,pi hh (by rw[← Array.getElem?_toList,hc];rfl),.inr ⟨u,v,rfl⟩⟩
 ·obtain⟨ps,⟨g,t,cs,fuel,p,q,hg,ht,hv,hd,_,_⟩,_,_⟩:=h4
  obtain rfl:=Option.some.inj ((show Tryz.prog.globalNamed "strconv.ErrRange" = some 3 by kernel_rfl).symm.trans hg)
  obtain rfl:=Option.some.inj ((show(Tryz.prog.globals[3]?).map (·.type)=some 128 by kernel_rfl).symm.trans ht)
  obtain⟨e,fr,hh⟩:=nJ hg hv
  obtain⟨u,v,hc⟩:=nK Tryz.underlying128 hd
  exact⟨_,pi hh (by rw[← Array.getElem?_toList,hc];rfl),.inr ⟨u,v,rfl⟩⟩
