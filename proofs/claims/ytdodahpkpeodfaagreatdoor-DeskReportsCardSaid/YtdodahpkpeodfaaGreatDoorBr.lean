/-
 From a contract of a typed function to a law's statement: what an argument is, by its reading; that the call leaves old memory alone.
-/
import Derived.Test.YtdodahpkpeodfaaGreatDoorAbsQ
import Derived.WalkKit
import Derived.ProofKit
import Derived.OpenShut
import Derived.ShutString
import Derived.ChangeOld
import Derived.Below
import Derived.Lib.SmallJoins
import Derived.Deep.Slices
set_option linter.all false
namespace Go.Abs
open Go Go.Joins Go.Deep Go.ChangeShapes Go.WideShapes Go.ChangeAt Go.RowKit
def j4 (w:World):GM:=⟨fun b o=>w.cell? ⟨b,o,none⟩,fun b=>match w.heap[b]? with | some (.map a c)=>some (.map a c) | some o=>if b=0 then some o else none | none=>none⟩
theorem tT(w:World)(ht:Tab (j4 w)):Resp (j4 w) w:=by
 refine⟨fun b o v h=>h,fun b x h=>?_,ht⟩
 simp only[j4]at h
 split at h
 ·rename_i a c e
  cases h;exact e
 ·rename_i o _ e
  split at h
  ·cases h;exact e
  ·cases h
 ·cases h
theorem tU{P:Program}{f:FuncId}{args:List AV}{w:World}{vs:List Value}(h:ACalls P f args [] fun e os=>e=.ret (.d (.bool true))∧os=[])(ha:All2 (GamA (j4 w)) args vs)(ht:Tab (j4 w)) :
  Calls P f ⟨vs⟩ w fun e w'=>e=.returned (.bool true)∧Below w.heap.size w w':=by
 refine(h.run (j4 w) w vs (tT w ht) ha (fa _ _)).mono ?_
 rintro e w' ⟨os',M',_,_,st,g⟩
 rcases g with⟨r,v,rfl,⟨hq,_⟩,hg⟩ | ⟨d,v,rfl,⟨hq,_⟩,_⟩
 ·cases hq
  cases hg with | d _ _ hg=>?_
  cases hg with | bool=>?_
  exact⟨rfl,st.fr.os,st.fr.tape,st.fr.output,st.fr.size,fun k hk=>st.fr.keep k hk (by rintro⟨k',o,hl,_⟩;simp[look_nil]at hl)⟩
 ·cases hq
def fits (k:IntKind)(n:Int):Prop:=(Lit.int k n).wf=true
section
variable {H:Type}{enc:TypeId×Value→H}{P:Program}{W:World}{spare:Nat→Bool}{r:Reach}{b0:Nat}{t e:TypeId}{k:IntKind}{v:Value}{d:DataW H}{p:List MemPlace}
end
section
variable {H:Type}{enc:TypeId×Value→H}{P:Program}{W:World}{r:Reach}{b0:Nat}{t t2 e:TypeId}{k:IntKind}{v:Value}{d:DataW H}{p:List MemPlace}
end
end Go.Abs
