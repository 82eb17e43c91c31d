/-
 The abstract machine: pure data D, abstract values AV, owned objects Ob, states St, and the predicate transformer codeA, by which a function's body is run on symbolic data. Definitions alone; soundness: AbsB and on.
-/
import Derived.WalkKit
set_option linter.all false
open List renaming rec→Jn
open Nat renaming beq→IF,mod→An
namespace Go.Abs
open Go
inductive D where
 | int (k:IntKind) (n:Int)
 | bool (b:Bool)
 | str (s:List UInt8)
 | agg (cs:List D)
 | list (sz:Nat) (xs:List D)
 | nilsl
 | ref (d:D)
 | nilptr
 | fn (f:Fn) (first caps:List D)
 | nilfn
 | ifc (t:TypeId) (d:D)
 | nilifc
 | mp (es:List (D×D))
 | nilmp
 | tup (cs:List D)
 deriving Inhabited
inductive AV where
 | d (x:D)
 | b (lit:Bool)
 | i (k:IntKind) (n:Int)
 | cl (sz:Nat) (xs:List D)
 | nils (sz:Nat)
 | nn (sz:Nat) (xs:List D)
 | ptr (k b o:Nat)
 | sl (k:Nat) (h:Value)
 | rw (k i:Nat) (h:Value)
 | vw (k:Nat) (h:Value) (sz lo hi:Nat)
 | el (k:Nat) (h:Value) (sz i o:Nat)
 | mp (k b:Nat)
 | it (k b:Nat)
 | fn (f:Fn) (first caps:List AV)
 | agg (l:List AV)
 | tup (l:List AV)
 | un
 | top
 deriving Inhabited
inductive Ob where
 | cells (b:Nat) (cs:List AV)
 | arr (h:Value) (e sz:Nat) (fz:Bool) (xs:List D)
 | map (b:Nat) (es:List (D×D))
 | mit (b km mb:Nat) (es rem:List (D×D)) (last:Option (D×D))
 | loop (b:Nat) (r:Go.Loop) (j:Option Code)
 | bld (b t e:Nat) (h:Value) (bs:List UInt8)
 | raw (b:Nat) (o:Go.Obj)
 | rows (h:Value) (e re rsz:Nat) (hs:Nat→Value) (hole:Option Nat) (xs:List (List D))
inductive TK where
 | bool | int (k:IntKind) | string | ptr (e:Nat) | slice (e:Nat) | array (n e:Nat) | map (k e:Nat) | struct (l:List (Nat×Nat)) | func | iface | tuple | other
inductive SK where
 | int (k:IntKind)
 | bool
 | str
 deriving DecidableEq
structure TI where
 k:TK
 size:Nat
 bytes:Nat
 zero:List D
 esz:Nat
 ek:List SK
 ft:List Nat
abbrev TT:=List (Nat×TI)
noncomputable def look {α:Type} (l:List (Nat×α)):Nat→Option α :=
 Jn (motive:=fun _=>Nat→Option α) (fun _=>none) (fun p _ ih n=>match p with | (k,v)=>match IF k n with | true=>some v | false=>ih n) l
theorem look_nil{α:Type}(n:Nat):look ([]:List (Nat×α)) n=none:=rfl
theorem aT{α:Type}(k:Nat)(v:α)(r:List (Nat×α))(n:Nat):look ((k,v)::r) n=match IF k n with | true=>some v | false=>look r n:=rfl
inductive T (α:Type) where
 | e
 | n (l:T α) (v:Option α) (r:T α)
noncomputable def T.get {α:Type} (f:Nat):T α→Nat→Option α :=
 Nat.rec (motive:=fun _=>T α→Nat→Option α) (fun _ _=>none) (fun _ ih t p=>match t with
  | .e=>none
  | .n l v r=>match p with
   | 0=>v
   | q+1=>match An q 2 with
    | 0=>ih l (Nat.div q 2)
    | _=>ih r (Nat.div q 2)) f
theorem T.get_succ{α:Type}(f:Nat)(t:T α)(p:Nat):T.get (f+1) t p=match t with
  | .e=>none
  | .n l v r=>match p with
   | 0=>v
   | q+1=>match An q 2 with
    | 0=>T.get f l (Nat.div q 2)
    | _=>T.get f r (Nat.div q 2):=rfl
noncomputable def T.put {α:Type} (x:α) (f:Nat):T α→Nat→(T α→Prop)→Prop :=
 Nat.rec (motive:=fun _=>T α→Nat→(T α→Prop)→Prop) (fun _ _ _=>False) (fun _ ih t p K=>match t with
  | .e=>match p with
   | 0=>K (.n .e (some x) .e)
   | q+1=>match An q 2 with
    | 0=>ih .e (Nat.div q 2) fun l=>K (.n l none .e)
    | _=>ih .e (Nat.div q 2) fun r=>K (.n .e none r)
  | .n l v r=>match p with
   | 0=>K (.n l (some x) r)
   | q+1=>match An q 2 with
    | 0=>ih l (Nat.div q 2) fun l'=>K (.n l' v r)
    | _=>ih r (Nat.div q 2) fun r'=>K (.n l v r')) f
theorem T.put_zero{α:Type}(x:α)(t:T α)(p:Nat)(K:T α→Prop):T.put x 0 t p K=False:=rfl
structure St where
 n:Nat
 tm:T AV
 ob:List (Nat×Ob)
noncomputable def St.get (s:St) (t:Nat):AV:=match T.get 20 s.tm t with | some v=>v | none=>.top
noncomputable def sZ {α:Type} (x:α) (l:List (Nat×α)):Nat→(List (Nat×α)→Prop)→Prop :=
 Jn (motive:=fun _=>Nat→(List (Nat×α)→Prop)→Prop) (fun k K=>K [(k,x)])
  (fun p r ih k K=>match p with | (j,y)=>match IF j k with | true=>K ((j,x)::r) | false=>ih k fun r'=>K ((j,y)::r')) l
theorem O8{α:Type}(x:α)(j:Nat)(y:α)(r:List (Nat×α))(k:Nat)(K:List (Nat×α)→Prop) :
  sZ x ((j,y)::r) k K=match IF j k with | true=>K ((j,x)::r) | false=>sZ x r k fun r'=>K ((j,y)::r'):=rfl
noncomputable def St.setO (s:St) (k:Nat) (o:Ob) (K:St→Prop):Prop:=match s with | ⟨n,tm,ob⟩=>sZ o ob k fun ob'=>K ⟨n,tm,ob'⟩
noncomputable def force {α:Type} (l:List α):(List α→Prop)→Prop :=
 Jn (motive:=fun _=>(List α→Prop)→Prop) (fun k=>k []) (fun x _ ih k=>ih fun ys=>k (x::ys)) l
theorem ry{α:Type}(x:α)(r:List α)(k:List α→Prop):force (x::r) k=force r fun ys=>k (x::ys):=rfl
noncomputable def pm (l:List Nat):Nat→(Nat→Prop)→Prop :=
 Jn (motive:=fun _=>Nat→(Nat→Prop)→Prop) (fun n K=>K n) (fun k _ ih n K=>match IF n k with | true=>K k | false=>ih n K) l
theorem ql(k:Nat)(r:List Nat)(n:Nat)(K:Nat→Prop):pm (k::r) n K=match IF n k with | true=>K k | false=>pm r n K:=rfl
noncomputable def mX (n:Nat) (K:Nat→Prop):Prop:=pm [0,1,2,3,4,5,6,7,8,9,10,11,12,13,14,15,16,17,18,19,20,21,22,23,24,25,26,27,28,29,30,31,32,33,34,35,36,37,38,39,40] n K
noncomputable def ur (n:Int) (K:Int→Prop):Prop:=match n with
 | .ofNat m=>mX m fun m=>K (.ofNat m)
 | .negSucc m=>mX m fun m=>K (.negSucc m)
noncomputable def kH (v:AV) (K:AV→Prop):Prop:=match v with
 | .d x=>match x with
  | .int k n=>K (.d (.int k n))
  | .bool b=>K (.d (.bool b))
  | .agg l=>force l fun l'=>K (.d (.agg l'))
  | .list sz l=>K (.d (.list sz l))
  | .ref x=>K (.d (.ref x))
  | .str s=>K (.d (.str s))
  | x=>K (.d x)
 | .b x=>match x with | true=>K (.b true) | false=>K (.b false)
 | .i k n=>ur n fun n=>K (.i k n)
 | .ptr k b o=>mX o fun o=>K (.ptr k b o)
 | .el k h sz i o=>mX o fun o=>K (.el k h sz i o)
 | .tup l=>force l fun l'=>K (.tup l')
 | x=>K x
noncomputable def St.putN (s:St) (t:Nat) (v:AV) (K:St→Prop):Prop:=match s with
 | ⟨n,tm,ob⟩=>match Nat.blt t n with
  | true=>T.put v 20 tm t fun tm'=>K ⟨n,tm',ob⟩
  | false=>False
noncomputable def St.put (s:St) (dst:Option Nat) (v:AV) (K:St→Prop):Prop:=match dst with
 | some t=>kH v fun v'=>s.putN t v' K
 | none=>K s
structure Side(p q:Prop):Prop where
 l:p
 r:q
structure Br(p q:Prop):Prop where
 l:p
 r:q
structure Rg(p q:Prop):Prop where
 l:p
 r:q
structure Need(p q:Prop):Prop where
 l:p
 r:q
inductive Ix (xs:List D) (i:Int) (K:D→Prop):Prop where
 | mk (x:D) (h0:0≤i) (h:xs[i.toNat]? = some x) (k:K x)
inductive Ln (xs:List D) (K:Int→Prop):Prop where
 | mk (n:Nat) (h:xs.length=n) (k:K n)
inductive LnA (xs:List D) (K:AV→Prop):Prop where
 | mk (n:Nat) (h:xs.length=n) (k:K (.d (.int .i64 n)))
 | lit (n:Nat) (h:xs.length=n) (k:K (.i .i64 n))
inductive Eqv (xs:List D) (K:List D→Prop):Prop where
 | mk (ys:List D) (h:xs=ys) (k:K ys)
inductive LnN (m:Nat) (K:Int→Prop):Prop where
 | mk (n:Nat) (h:m=n) (k:K n)
inductive EqB (c:Bool) (K:Bool→Prop):Prop where
 | mk (b:Bool) (h:c=b) (k:K b)
inductive LkG (x:Option D) (z:D) (K:D→Bool→Prop):Prop where
 | mk (v:D) (b:Bool) (h:x.getD z=v) (hb:x.isSome=b) (k:K v b)
inductive MEqv (xs:List (D×D)) (K:List (D×D)→Prop):Prop where
 | mk (ys:List (D×D)) (h:xs=ys) (k:K ys)
inductive RIx (xs:List (List D)) (i:Nat) (K:List D→Prop):Prop where
 | mk (x:List D) (h:xs[i]? = some x) (k:K x)
inductive REqv (xs:List (List D)) (K:List (List D)→Prop):Prop where
 | mk (ys:List (List D)) (h:xs=ys) (k:K ys)
def mz (f:Nat→Value)(i:Nat)(v:Value)(j:Nat):Value:=if j=i then v else f j
def IntKind.lo:IntKind→Int
 | .i64=>-9223372036854775808 | .i32=>-2147483648 | .i16=>-32768 | .i8=>-128 | _=>0
def IntKind.hi:IntKind→Int
 | .i64=>9223372036854775807 | .i32=>2147483647 | .i16=>32767 | .i8=>127
 | .u64=>18446744073709551615 | .u32=>4294967295 | .u16=>65535 | .u8=>255
def cellsOf:D→List D
 | .agg l=>l
 | x=>[x]
def okD:SK→D→Bool
 | .int k,.int k' _=>decide (k=k')
 | .bool,.bool _=>true
 | .str,.str _=>true
 | _,_=>false
def io:List SK→List D→Bool
 | [],[]=>true
 | k::ks,v::vs=>okD k v&&io ks vs
 | _,_=>false
def eqD:D→D→Bool
 | .int _ a,.int _ b=>decide (a=b)
 | .bool a,.bool b=>a == b
 | .str a,.str b=>decide (a=b)
 | _,_=>false
def eU:List D→List D→Bool
 | [],[]=>true
 | a::as,b::bs=>eqD a b&&eU as bs
 | _,_=>false
def kI (l:List D):List (D×D)→Option D
 | []=>none
 | e::es=>if eU l (cellsOf e.1)then some e.2 else kI l es
def NY (l:List D)(k v:D):List (D×D)→List (D×D)
 | []=>[(k,v)]
 | e::es=>if eU l (cellsOf e.1)then(k,v)::es else e::NY l k v es
def zAV:D→AV
 | .list sz []=>.nils sz
 | x=>.d x
def AV.toD:AV→AV
 | .b x=>.d (.bool x)
 | .i k n=>.d (.int k n)
 | .cl sz xs=>.d (.list sz xs)
 | .nn sz xs=>.d (.list sz xs)
 | x=>x
noncomputable def bN {α β:Type} (f:α→β) (l:List α):List β:=Jn (motive:=fun _=>List β) [] (fun x _ ih=>f x::ih) l
theorem bY{α β:Type}(f:α→β)(l:List α):bN f l=l.map f:=by
 induction l with
 | nil=>rfl
 | cons x r ih=>show f x::bN f r=_;rw[ih];rfl
noncomputable def AV.cells?:AV→Option (List AV)
 | .agg l=>some l
 | .d (.agg l)=>some (bN .d l)
 | .d (.tup _)=>none
 | .tup _=>none
 | .top=>none
 | .un=>none
 | .b x=>some [.d (.bool x)]
 | .i k n=>some [.d (.int k n)]
 | .cl sz xs=>some [.d (.list sz xs)]
 | .nn sz xs=>some [.d (.list sz xs)]
 | x=>some [x]
def pn:Value→AV
 | .int k n=>.i k n
 | .bool b=>.b b
 | .string s=>.d (.str s.data.toList)
 | .slice none 0 0=>.nils 0
 | .pointer none=>.d .nilptr
 | .nilFunc=>.d .nilfn
 | .nilIface=>.d .nilifc
 | .map none=>.d .nilmp
 | _=>.top
noncomputable def St.eval (s:St):Operand→AV
 | .tmp t=>s.get t
 | .const v=>pn v
 | .func f=>.d (.fn (.func f) [] [])
 | .global _=>.top
noncomputable def wK {α:Type} (x:α) (l:List α):Nat→List α :=
 Jn (motive:=fun _=>Nat→List α) (fun _=>[]) (fun y r ih i=>match i with | 0=>x::r | j+1=>y::ih j) l
theorem vO{α:Type}(x:α)(l:List α):∀i:Nat,wK x l i=l.set i x:=by
 induction l with
 | nil=>intro i;rfl
 | cons y r ih =>
  intro i
  cases i with
  | zero=>rfl
  | succ j=>show y::wK x r j=_;rw[ih];rfl
noncomputable def setMany {α:Type} (l:List α) (i:Nat) (vs:List α):List α :=
 Jn (motive:=fun _=>List α→Nat→List α) (fun l _=>l) (fun v _ ih l i=>ih (wK v l i) (Nat.succ i)) vs l i
theorem gS{α:Type}(l:List α)(i:Nat):setMany l i []=l:=rfl
theorem bz{α:Type}(l:List α)(i:Nat)(v:α)(vs:List α):setMany l i (v::vs)=setMany (l.set i v) (i+1) vs:=by
 rw[← vO];rfl
noncomputable def sx {α:Type} (l:List α):Nat→List α :=
 Jn (motive:=fun _=>Nat→List α) (fun _=>[]) (fun y r ih i=>match i with | 0=>y::r | j+1=>ih j) l
theorem mY{α:Type}(l:List α):∀i:Nat,sx l i=l.drop i:=by
 induction l with
 | nil=>intro i;simp;rfl
 | cons y r ih =>
  intro i
  cases i with
  | zero=>rfl
  | succ j=>show sx r j=_;rw[ih];rfl
noncomputable def sy {α:Type} (l:List α):Nat→List α :=
 Jn (motive:=fun _=>Nat→List α) (fun _=>[]) (fun y _ ih i=>match i with | 0=>[] | j+1=>y::ih j) l
theorem mZ{α:Type}(l:List α):∀i:Nat,sy l i=l.take i:=by
 induction l with
 | nil=>intro i;simp;rfl
 | cons y r ih =>
  intro i
  cases i with
  | zero=>rfl
  | succ j=>show y::sy r j=_;rw[ih];rfl
noncomputable def dB {α:Type} (l:List α):Nat:=Jn (motive:=fun _=>Nat) 0 (fun _ _ ih=>Nat.succ ih) l
theorem eg{α:Type}(l:List α):dB l=l.length:=by
 induction l with
 | nil=>rfl
 | cons y r ih=>show dB r+1=_;rw[ih];rfl
noncomputable def jr {α:Type} (l:List α):Nat→Option α :=
 Jn (motive:=fun _=>Nat→Option α) (fun _=>none) (fun y _ ih i=>match i with | 0=>some y | j+1=>ih j) l
theorem f7{α:Type}(l:List α):∀i:Nat,jr l i=l[i]?:=by
 induction l with
 | nil=>intro i;simp;rfl
 | cons y r ih =>
  intro i
  cases i with
  | zero=>rfl
  | succ j=>show jr r j=_;rw[ih];simp
noncomputable def po {α β:Type} (l:List α):List β→List (α×β) :=
 Jn (motive:=fun _=>List β→List (α×β)) (fun _=>[]) (fun x _ ih m=>match m with | []=>[] | y::m'=>(x,y)::ih m') l
theorem kJ{α β:Type}(l:List α):∀m:List β,po l m=l.zip m:=by
 induction l with
 | nil=>intro m;simp;rfl
 | cons x r ih =>
  intro m
  cases m with
  | nil=>rfl
  | cons y m'=>show(x,y)::po r m'=_;rw[ih];rfl
noncomputable def oo {α:Type} (l m:List α):List α:=Jn (motive:=fun _=>List α) m (fun x _ ih=>x::ih) l
theorem OX{α:Type}(l m:List α):oo l m=l++m:=by
 induction l with
 | nil=>rfl
 | cons y r ih=>show y::oo r m=_;rw[ih];rfl
def AV.asD?:AV→Option D
 | .d x=>some x
 | .b x=>some (.bool x)
 | .i k n=>some (.int k n)
 | .cl sz xs=>some (.list sz xs)
 | .nils sz=>some (.list sz [])
 | _=>none
noncomputable def lj (l:List AV):Option (List D) :=
 Jn (motive:=fun _=>Option (List D)) (some []) (fun v _ ih=>match v.asD? with | some x=>(match ih with | some l=>some (x::l) | none=>none) | none=>none) l
theorem ut:lj []=some []:=rfl
theorem tc(v:AV)(r:List AV):lj (v::r)=match v.asD? with | some x=>(match lj r with | some l=>some (x::l) | none=>none) | none=>none:=rfl
def AV.asS?:AV→Option D
 | .d x=>some x
 | .b x=>some (.bool x)
 | .i k n=>some (.int k n)
 | .cl sz xs=>some (.list sz xs)
 | _=>none
noncomputable def tf (l:List AV):Option (List D) :=
 Jn (motive:=fun _=>Option (List D)) (some []) (fun v _ ih=>match v.asS? with | some x=>(match ih with | some l=>some (x::l) | none=>none) | none=>none) l
theorem uu:tf []=some []:=rfl
theorem tg(v:AV)(r:List AV):tf (v::r)=match v.asS? with | some x=>(match tf r with | some l=>some (x::l) | none=>none) | none=>none:=rfl
def TK.isAgg:TK→Bool
 | .struct _=>true
 | .array _ _=>true
 | _=>false
noncomputable def mkVal (i:TI) (l:List AV) (K:AV→Prop):Prop :=
 match i.k.isAgg with
 | true=>match tf l with
  | some ds=>K (.d (.agg ds))
  | none=>force l fun l'=>K (.agg l')
 | false=>match l with | [x]=>K x | _=>False
def vP (op:BinOp)(a b:Int):Option Bool :=
 match op with
 | .eql=>some (decide (a=b))
 | .neq=>some (!decide (a=b))
 | .lss=>some (decide (a<b))
 | .leq=>some (decide (a≤b))
 | .gtr=>some (decide (b<a))
 | .geq=>some (decide (b≤a))
 | _=>none
def pq (op:BinOp)(a b:Int):Option Int :=
 match op with
 | .add=>some (a+b)
 | .sub=>some (a-b)
 | .mul=>some (a*b)
 | _=>none
inductive X where
 | nrm
 | exit (n:Nat)
 | ret
 | pan (d:D)
inductive AE where
 | ret (r:AV)
 | pan (d:D)
end Go.Abs
