/-
 Regions that draw their order: a plan (operations that only read go first, and are run again behind each other one), its run, its soundness.
-/
import Derived.Test.YtdodahpkpeodfaaGreatDoorAbsP
import Derived.OrdersIn
set_option linter.all false
open List renaming range→Jq
namespace Go.Abs
open Go
inductive Plan where
 | done
 | take (i:Nat) (p:Plan)
 | spl (t:Nat) (p:Plan)
 | alt (i:Nat) (rv:List Nat) (p q:Plan)
 | nil
structure Both(p q:Prop):Prop where
 l:p
 r:q
section
variable (P:Program)(tt:TT)(an:Ann)
noncomputable def cX (all:Array Oper) (o:Oper) (s:St):Option Bool:=match o.guard with
 | none=>some true
 | some (g,want)=>match kw all g with
  | some t=>match s.get t with
   | .b c=>match c,want with
    | true,true=>some true
    | false,false=>some true
    | _,_=>some false
   | .un=>some false
   | _=>none
  | none=>none
noncomputable def fT (all:Array Oper) (l:List Nat) (s:St) (K:Prop):Prop :=
 List.rec (motive:=fun _=>Prop) K (fun i _ ih=>match jr all.toList i with
  | some o=>match o.dst with
   | some d=>match cX all o s with
    | some true=>opR tt o s fun y=>Need (AV.le y (s.get d)) ih
    | some false=>Need (s.get d=.un) ih
    | none=>False
   | none=>False
  | none=>False) l
theorem qO(all:Array Oper)(i:Nat)(r:List Nat)(s:St)(K:Prop):fT tt all (i::r) s K=match jr all.toList i with
  | some o=>match o.dst with
   | some d=>match cX all o s with
    | some true=>opR tt o s fun y=>Need (AV.le y (s.get d)) (fT tt all r s K)
    | some false=>Need (s.get d=.un) (fT tt all r s K)
    | none=>False
   | none=>False
  | none=>False:=rfl
def sR (ops:Array Oper)(i:Nat):Bool :=
 let S:=(Jq ops.size).foldr (fun j S=>if Nat.beq j i||S.any (fun k=>match ops[k]? with | some o=>o.after.any fun e=>Region.binds .any e&&e.on == j | none=>false)then j::S else S) []
 (Jq ops.size).all fun j=>S.contains j
noncomputable def opY (Y:YT) (o:Oper) (s:St) (K:St→Prop) (Kp:D→St→Prop):Prop:=match isY s o with
 | true=>Y o s K
 | false=>opA P tt an o s K Kp
variable (Y:YT)
noncomputable def d7 (all:Array Oper) (K:X→St→Prop) (pl:Plan):St→Prop :=
 Plan.rec (motive:=fun _=>St→Prop) (fun s=>K .nrm s)
  (fun i _ ih s=>match jr all.toList i with
   | some o=>match o.dst with
    | some d=>match cX all o s with
     | some true=>opR tt o s fun y=>s.put (some d) y ih
     | some false=>s.put (some d) .un ih
     | none=>False
    | none=>False
   | none=>False)
  (fun t _ ih s=>match s.get t with
   | .b _=>ih s
   | .un=>ih s
   | .d (.bool c)=>Br (c=true→s.putN t (.b true) ih) (c=false→s.putN t (.b false) ih)
   | _=>False)
  (fun i rv _ _ ihp ihq s=>Both (match jr all.toList i with
   | some o=>match cX all o s with
    | some true=>opY P tt an Y o s (fun s'=>fT tt all rv s' (ihp s')) (fun d s'=>Side (sR all i=true) (K (.pan d) s'))
    | some false=>s.put o.dst .un fun s'=>fT tt all rv s' (ihp s')
    | none=>False
   | none=>False) (ihq s))
  (fun _=>True) pl
end
/-! The check of a plan. -/
def pR (e:Edge):Bool:=Region.binds .any e
def aft (ops:Array Oper)(j i:Nat):Bool:=match ops[i]? with | some o=>o.after.any fun e=>pR e&&e.on == j | none=>false
def fI (ops:Array Oper)(j:Nat):Option Nat:=(ops[j]?).bind (·.dst)
def looks(ops:Array Oper)(i:Nat):List Nat:=match ops[i]? with | some o=>o.looksAt ops | none=>[]
def clash(ops:Array Oper)(j i:Nat):Bool:=match fI ops j with | some d=>(looks ops i).contains d | none=>false
def pS (ops:Array Oper)(i:Nat):Bool:=match ops[i]? with | some o=>isR o.op&&o.dst.isSome | none=>false
def fJ (ops:Array Oper):Array Bool→List Nat→List Nat→Plan→Bool
 | V,_,acc,.done=>acc.isEmpty&&(Region.ready .any ops V).isEmpty
 | V,pend,acc,.take i p=>acc.isEmpty&&(Region.ready .any ops V).contains i&&pS ops i
   && (Jq ops.size).all (fun k=>(V.getD k true&&!pend.contains k)||!clash ops i k||(!V.getD k true&&k != i&&aft ops i k))
   && pend.all (fun k=>fI ops k != fI ops i)
   && fJ ops (V.setIfInBounds i true) (i::pend) [] p
 | V,pend,acc,.spl t p=>acc.isEmpty&&pend.all (fun k=>!(looks ops k).contains t)&&fJ ops V pend [] p
 | V,pend,acc,.alt i rv p q=>(Region.ready .any ops V).contains i&&pend.all (fun k=>rv.contains k||aft ops k i)&&fJ ops (V.setIfInBounds i true) (pend.filter fun k=>!aft ops k i) [] p&&fJ ops V pend (i::acc) q
 | V,_,acc,.nil=>!acc.isEmpty&&(Region.ready .any ops V).all (fun k=>acc.contains k)
def iJ (ops:Array Oper):Bool:=(Jq ops.size).all fun i=>match ops[i]? with
 | some o=>o.after.all (fun e=>!pR e||decide (e.on<i))&&(match o.op with | .select ..=>false | .defer _=>false | _=>true)
 | none=>true
def uY (ops:Array Oper)(pl:Plan):Bool:=iJ ops&&fJ ops (Array.replicate ops.size false) [] [] pl
inductive DrawG (P:Program) (tt:TT) (an:Ann) (Y:YT) (ops:Array Oper) (s:St) (K:X→St→Prop):Prop where
 | mk (pl:Plan) (h:uY ops pl=true) (run:d7 P tt an Y ops K pl s)
def drR (P:Program)(tt:TT)(an:Ann)(Y:YT)(ops:Array Oper)(s:St)(K:X→St→Prop):Prop:=DrawG P tt an Y ops s K
section
variable {P:Program}{tt:TT}{an:Ann}{M M':GM}{s s':St}{a av:Act}{w w':World}
theorem ky{x:Operand}(h:∀t,x=.tmp t→s'.get t=s.get t):s'.eval x=s.eval x:=by
 cases x with
 | tmp t=>exact h t rfl
 | _=>rfl
def Det (T:(AV→Prop)→Prop):Prop:=∀K,T K→∃y,K y∧∀K':AV→Prop,K' y→T K'
theorem Det.ret(y:AV):Det fun K=>K y:=fun _ h=>⟨y,h,fun _ h'=>h'⟩
theorem Det.no:Det fun _=>False:=fun _ h=>h.elim
theorem Det.need{p:Prop}{T:(AV→Prop)→Prop}(h:Det T):Det fun K=>Need p (T K):=fun K hk=>let⟨y,h1,h2⟩:=h K hk.r;⟨y,h1,fun K' h'=>⟨hk.l,h2 K' h'⟩⟩
theorem Det.side{p:Prop}{T:(AV→Prop)→Prop}(h:Det T):Det fun K=>Side p (T K):=fun K hk=>let⟨y,h1,h2⟩:=h K hk.r;⟨y,h1,fun K' h'=>⟨hk.l,h2 K' h'⟩⟩
theorem Det.ix{xs:List D}{n:Int}{T:D→(AV→Prop)→Prop}(h:∀x,Det (T x)):Det fun K=>Ix xs n fun x=>T x K:=by
 rintro K ⟨x,h0,hx,hk⟩
 obtain⟨y,h1,h2⟩:=h x K hk
 exact⟨y,h1,fun K' h'=>⟨x,h0,hx,h2 K' h'⟩⟩
theorem Det.ixG{n:Int}{len:Nat}{T:Nat→(AV→Prop)→Prop}(h:∀j,Det (T j)):Det fun K=>IxG n len fun j=>T j K:=by
 rintro K ⟨j,hj,hl,hk⟩
 obtain⟨y,h1,h2⟩:=h j K hk
 exact⟨y,h1,fun K' h'=>⟨j,hj,hl,h2 K' h'⟩⟩
theorem Det.lnA{xs:List D}:Det fun K=>LnA xs K:=by
 intro K h
 rcases h with⟨n,hn,hk⟩ | ⟨n,hn,hk⟩
 ·exact⟨_,hk,fun K' h'=>.mk n hn h'⟩
 ·exact⟨_,hk,fun K' h'=>.lit n hn h'⟩
theorem Det.byG{b:List UInt8}{n:Int}{T:Int→(AV→Prop)→Prop}(h:∀c,Det (T c)):Det fun K=>ByG b n fun c=>T c K:=by
 rintro K ⟨c,h0,hx,hk⟩
 obtain⟨y,h1,h2⟩:=h _ K hk
 exact⟨y,h1,fun K' h'=>⟨c,h0,hx,h2 K' h'⟩⟩
theorem Det.lnN{m:Nat}{T:Int→(AV→Prop)→Prop}(h:∀x,Det (T x)):Det fun K=>LnN m fun x=>T x K:=by
 rintro K ⟨n,hn,hk⟩
 obtain⟨y,h1,h2⟩:=h n K hk
 exact⟨y,h1,fun K' h'=>⟨n,hn,h2 K' h'⟩⟩
theorem Det.ti{t:Nat}{T:TI→(AV→Prop)→Prop}(h:∀i,Det (T i)):Det fun K=>aE tt t fun i=>T i K:=by
 unfold aE;split
 ·exact h _
 ·exact .no
theorem Det.mkVal{i:TI}{l:List AV}:Det fun K=>mkVal i l K:=by
 unfold Abs.mkVal
 split
 ·split
  ·exact .ret _
  ·simp only[aU];exact .ret _
 ·split
  ·exact .ret _
  ·exact .no
theorem Det.obR{k:Nat}{T:Ob→(AV→Prop)→Prop}(h:∀o,Det (T o)):Det fun K=>obR s k fun o=>T o K:=by
 unfold Abs.obR;split
 ·exact h _
 ·exact .no
theorem Det.cellsR{cs:List AV}{off n:Nat}{T:List AV→(AV→Prop)→Prop}(h:∀l,Det (T l)):Det fun K=>cellsR cs off n fun l=>T l K:=by
 unfold Abs.cellsR;split
 ·exact h _
 ·exact .no
theorem Det.loadR{i:TI}{x:AV}:Det fun K=>loadR s i x K:=by
 unfold Abs.loadR
 split
 ·refine .obR fun o=>?_
  split
  ·exact .side (.cellsR fun l=>.mkVal)
  ·exact .no
 ·split
  ·exact .mkVal
  ·exact .no
 ·refine .obR fun o=>?_
  split
  ·exact .side (.ix fun x=>.cellsR fun l=>.mkVal)
  ·split
   ·split
    ·exact .side (.need (.ret _))
    ·exact .no
   ·exact .no
  ·exact .no
 ·exact .no
theorem Det.partD{l:List D}{off n:Nat}{T:D→(AV→Prop)→Prop}(h:∀d,Det (T d)):Det fun K=>partD l off n fun d=>T d K:=by
 unfold Abs.partD;simp only[aU];exact h _
theorem Det.fieldR{i:TI}{x:AV}{f:Nat}:Det fun K=>fieldR i x f K:=by
 unfold Abs.fieldR
 split
 ·split
  ·split
   ·exact .ret _
   ·exact .ret _
   ·exact .partD fun d=>.ret _
   ·exact .no
  ·exact .no
 ·exact .no
theorem Det.idxR{i:TI}{x:AV}{n:Int}:Det fun K=>idxR s i x n K:=by
 unfold Abs.idxR
 split
 ·refine .ixG fun j=>?_
  split
  ·exact .ret _
  ·exact .ret _
  ·exact .partD fun d=>.ret _
  ·exact .no
 ·split
  ·exact .side (.ix fun x=>.ret _)
  ·refine .obR fun o=>?_
   split
   ·exact .side (.need (.ret _))
   ·exact .side (.need (.ret _))
   ·exact .no
  ·exact .no
 ·exact .no
theorem Det.lenR{i:TI}{x:AV}:Det fun K=>lenR s i x K:=by
 unfold Abs.lenR
 split
 ·split
  ·exact .ret _
  ·exact .lnA
  ·refine .obR fun o=>?_
   split
   ·exact .side .lnA
   ·exact .side (.lnN fun n=>.ret _)
   ·exact .no
  ·exact .no
 ·split
  ·exact .ret _
  ·exact .no
 ·exact .ret _
 ·split
  ·refine .obR fun o=>?_
   split
   ·exact .side (.lnN fun n=>.ret _)
   ·exact .no
  ·exact .lnN fun n=>.ret _
  ·exact .ret _
  ·exact .no
 ·exact .no
theorem Det.indexV{i:TI}{x:AV}{n:Int}:Det fun K=>indexV tt i x n K:=by
 unfold Abs.indexV
 split
 ·split
  ·exact .ixG fun j=>.ti fun ei=>.cellsR fun l=>.mkVal
  ·exact .no
 ·split
  ·exact .byG fun c=>.ret _
  ·exact .no
 ·exact .no
theorem Det.fieldV{i:TI}{x:AV}{f:Nat}:Det fun K=>fieldV tt i x f K:=by
 unfold Abs.fieldV
 split
 ·split
  ·split
   ·exact .ti fun fi=>.cellsR fun l=>.mkVal
   ·exact .no
  ·exact .no
 ·exact .no
theorem Det.eqB{c:Bool}{T:Bool→(AV→Prop)→Prop}(h:∀x,Det (T x)):Det fun K=>EqB c fun x=>T x K:=by
 rintro K ⟨n,hn,hk⟩
 obtain⟨y,h1,h2⟩:=h n K hk
 exact⟨y,h1,fun K' h'=>⟨n,hn,h2 K' h'⟩⟩
theorem Det.isBoolT{t:Nat}{T:(AV→Prop)→Prop}(h:Det T):Det fun K=>isBoolT tt t (T K):=by
 unfold Abs.isBoolT
 refine .ti fun i=>?_
 split
 ·exact h
 ·exact .no
theorem Det.binD{op:BinOp}{t:Nat}{x y:AV}:Det fun K=>binD tt op t x y K:=by
 unfold Abs.binD
 split
 ·split
  ·exact .need (.ret _)
  ·split
   ·exact .no
   ·split
    ·exact .ret _
    ·split
     ·exact .ret _
     ·split
      ·exact .need (.ret _)
      ·exact .need (.ret _)
      ·split
       ·exact .ret _
       ·exact .no
 ·split
  ·exact .isBoolT (.ret _)
  ·exact .isBoolT (.ret _)
  ·exact .no
 ·split
  ·exact .ret _
  ·exact .ret _
  ·exact .need (.ret _)
  ·exact .no
 ·refine .ti fun i=>?_
  split
  ·exact .need (.eqB fun b=>.ret _)
  ·exact .need (.eqB fun b=>.ret _)
  ·exact .no
 ·exact .no
theorem Det.nilR2{op:BinOp}{t:Nat}{eq:Bool}:Det fun K=>nilR2 tt op t eq K:=by
 unfold Abs.nilR2
 refine .ti fun i=>?_
 split
 ·split
  ·exact .ret _
  ·exact .ret _
  ·exact .no
 ·exact .no
theorem Det.binR{op:BinOp}{t:Nat}{x y:AV}:Det fun K=>binR tt op t x y K:=by
 unfold Abs.binR
 split
 ·split
  ·split
   ·exact .binD
   ·split
    ·exact .ret _
    ·exact .binD
  ·exact .binD
 ·split
  ·exact .nilR2
  ·exact .binD
 ·split
  ·exact .nilR2
  ·exact .binD
 ·exact .binD
theorem Det.opR{o:Oper}:Det fun K=>opR tt o s K:=by
 unfold Abs.opR
 split
 ·unfold mA;split
  ·exact .ti fun i=>.ret _
  ·exact .ret _
 ·unfold mA;split
  ·exact .ti fun i=>.ret _
  ·exact .ret _
 ·split
  ·exact .ret _
  ·exact .ret _
  ·exact .no
 ·exact .ti fun i=>.fieldR
 ·split
  ·exact .ti fun i=>.idxR
  ·exact .no
 ·exact .ti fun i=>.loadR
 ·split
  ·exact .ti fun i=>.indexV
  ·exact .no
 ·exact .ti fun i=>.fieldV
 ·split<;>first | exact .ret _ | exact .no
 ·split
  ·refine .ti fun i=>?_
   split
   ·split<;>first | exact .no | (split<;>first | exact .ret _ | exact .no)
   ·exact .no
  ·exact .binR
 ·split<;>first | exact .ret _ | exact .no
 ·split<;>first | exact .ret _ | exact .no
 ·unfold vT;split
  ·split<;>first | exact .ret _ | exact .no
  ·split<;>first | exact .ret _ | exact .no
  ·exact .no
 ·split
  ·exact .ret _
  ·simp only[aU];exact .ret _
 ·refine .ti fun i=>.ti fun i'=>?_
  unfold sB;split
  ·exact .ret _
  ·exact .ret _
  ·split<;>first | exact .ret _ | exact .no
  ·exact .no
 ·refine .ti fun i=>?_
  split
  ·exact .no
  ·split<;>first | exact .ret _ | exact .no
 ·split
  ·split
   ·exact .ti fun i=>.lenR
   ·exact .no
  ·split
   ·refine .ti fun i=>?_
    split<;>first | exact .ret _ | exact .no
   ·exact .no
  ·split
   ·split<;>first | exact .ret _ | exact .no
   ·exact .no
  ·split
   ·split<;>first | exact .ret _ | exact .no
   ·exact .no
  ·exact .no
 ·exact .no
end
end Go.Abs
