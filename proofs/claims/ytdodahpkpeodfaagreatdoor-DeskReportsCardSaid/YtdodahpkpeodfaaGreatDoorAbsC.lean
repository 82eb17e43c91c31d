/-
 The abstract machine's run: operations (opR: those that only read; opE: the others), regions, code. Definitions alone.
-/
import Derived.Test.YtdodahpkpeodfaaGreatDoorAbsU
set_option linter.all false
open List renaming rec→Jn,replicate→Iu
open Nat renaming add→Bd,beq→IF,ble→zl
namespace Go.Abs
open Go
structure Ann where
 imm:List Nat
 nob:List Nat
 own:List Nat
 trunc:List Nat
 cut:List Nat
 off:Nat
 vws:List Nat
noncomputable def rz (n:Nat) (l:List Nat):Bool:=Jn (motive:=fun _=>Bool) false (fun m _ ih=>match IF n m with | true=>true | false=>ih) l
noncomputable def uv (o:Option Nat) (l:List Nat):Bool:=match o with | some n=>rz n l | none=>false
def gX (i:TI)(x:D):Bool:=io i.ek (cellsOf x)&&(match x with | .agg _=>i.k.isAgg | _=>!i.k.isAgg)&&!i.ek.isEmpty
section
variable (P:Program)(tt:TT)(an:Ann)
noncomputable def aE (t:Nat) (K:TI→Prop):Prop:=match look tt t with | some i=>K i | none=>False
noncomputable def partD (l:List D) (off n:Nat) (K:D→Prop):Prop:=force (sy (sx l off) n) fun l'=>K (.ref (.agg l'))
noncomputable def obR (s:St) (k:Nat) (K:Ob→Prop):Prop:=match look s.ob k with | some o=>K o | none=>False
noncomputable def cellsR (cs:List AV) (off n:Nat) (K:List AV→Prop):Prop:=match zl (Bd off n) (dB cs)with | true=>K (sy (sx cs off) n) | false=>False
noncomputable def loadR (s:St) (i:TI) (x:AV) (K:AV→Prop):Prop:=match x with
 | .ptr k b o=>obR s k fun ob=>match ob with
  | .cells b' cs=>Side (b=b') (cellsR cs o i.size fun l=>mkVal i l K)
  | _=>False
 | .d (.ref d)=>match IF (dB (cellsOf d)) i.size with | true=>mkVal i (bN .d (cellsOf d)) K | false=>False
 | .el k h sz j o=>obR s k fun ob=>match ob with
  | .arr h' _ sz' _ xs=>Side (h=h'∧sz=sz') (Ix xs j fun x=>cellsR (bN .d (cellsOf x)) o i.size fun l=>mkVal i l K)
  | .rows h' _ _ _ hs _ xs=>match i.k with
   | .slice _=>match IF i.size 1,o with
    | true,0=>Side (h=h'∧sz=1) (Need (j<xs.length) (K (.rw k j (hs j))))
    | _,_=>False
   | _=>False
  | _=>False
 | _=>False
noncomputable def lenR (s:St) (i:TI) (x:AV) (K:AV→Prop):Prop:=match i.k with
 | .slice _=>match x.toD with
  | .nils _=>K (.i .i64 0)
  | .d (.list _ xs)=>LnA xs K
  | .sl k h=>obR s k fun ob=>match ob with
   | .arr h' _ _ _ xs=>Side (h=h') (LnA xs K)
   | .rows h' _ _ _ _ _ xs=>Side (h=h') (LnN xs.length fun n=>K (.d (.int .i64 n)))
   | _=>False
  | _=>False
 | .string=>match x with
  | .d (.str t)=>K (.d (.int .i64 t.length))
  | _=>False
 | .array n _=>K (.i .i64 n)
 | .map _ _=>match x with
  | .mp k b=>obR s k fun ob=>match ob with
   | .map b' es=>Side (b=b') (LnN es.length fun n=>K (.d (.int .i64 n)))
   | _=>False
  | .d (.mp es)=>LnN es.length fun n=>K (.d (.int .i64 n))
  | .d .nilmp=>K (.i .i64 0)
  | _=>False
 | _=>False
noncomputable def isBoolT (t:Nat) (p:Prop):Prop:=aE tt t fun i=>match i.k with | .bool=>p | _=>False
def xd (op:BinOp)(k:IntKind)(a b:Int):Option AV:=match pq op a b with
 | some c=>some (.i k (k.wrap c))
 | none=>match vP op a b with
  | some c=>some (.b c)
  | none=>none
def shI (op:BinOp)(k:IntKind)(a b:Int):Option Int:=match op with
 | .shl=>some (k.wrap (a*2 ^ (min b.toNat k.bits)))
 | .shr=>some (a.fdiv (2 ^ (min b.toNat k.bits)))
 | _=>none
def xe (op:BinOp)(k:IntKind)(a b:Int):Option Int:=match op with
 | .and=>some (k.wrap (BitVec.ofInt k.bits a &&& BitVec.ofInt k.bits b).toNat)
 | .or=>some (k.wrap (BitVec.ofInt k.bits a ||| BitVec.ofInt k.bits b).toNat)
 | .xor=>some (k.wrap (BitVec.ofInt k.bits a ^^^ BitVec.ofInt k.bits b).toNat)
 | .andNot=>some (k.wrap (BitVec.ofInt k.bits a &&& ~~~BitVec.ofInt k.bits b).toNat)
 | _=>none
def binD (op:BinOp)(t:Nat)(x y:AV)(K:AV→Prop):Prop:=match x.toD,y.toD with
 | .d (.int k a),.d (.int k' b)=>match shI op k a b with
  | some c=>Need (0≤b) (K (.d (.int k c)))
  | none=>match decide (k=k')with
  | false=>False
  | true=>match pq op a b with
   | some c=>K (.d (.int k (k.wrap c)))
   | none=>match xe op k a b with
    | some c=>K (.d (.int k c))
    | none=>match op with
    | .quo=>Need (b≠0) (K (.d (.int k (k.wrap (a.tdiv b)))))
    | .rem=>Need (b≠0) (K (.d (.int k (a.tmod b))))
    | _=>match vP op a b with
     | some p=>K (.d (.bool p))
     | none=>False
 | .d (.bool a),.d (.bool b)=>match op with
  | .eql=>isBoolT tt t (K (.d (.bool (a == b))))
  | .neq=>isBoolT tt t (K (.d (.bool (a != b))))
  | _=>False
 | .d (.str a),.d (.str b)=>match op with
  | .eql=>K (.d (.bool (decide (a=b))))
  | .neq=>K (.d (.bool (!decide (a=b))))
  | .add=>Need (a.length+b.length≤9223372036854775807) (K (.d (.str (a++b))))
  | _=>False
 | .d (.agg l),.d (.agg m)=>aE tt t fun i=>match op with
   | .eql=>Need (gX i (.agg l)=true∧gX i (.agg m)=true) (EqB (eU l m) fun b=>K (.d (.bool b)))
   | .neq=>Need (gX i (.agg l)=true∧gX i (.agg m)=true) (EqB (eU l m) fun b=>K (.d (.bool (!b))))
   | _=>False
 | _,_=>False
noncomputable def nilR2 (op:BinOp) (t:Nat) (eq:Bool) (K:AV→Prop):Prop:=aE tt t fun i=>match i.k with
 | .slice _=>match op with
  | .eql=>K (.b eq)
  | .neq=>K (.b (!eq))
  | _=>False
 | _=>False
noncomputable def wL (op:BinOp) (t:Nat) (x:AV) (K:AV→Prop):Prop:=aE tt t fun i=>match i.k with
 | .iface=>match x with
  | .d .nilifc=>match op with
   | .eql=>K (.b true)
   | .neq=>K (.b false)
   | _=>False
  | .d (.ifc _ _)=>match op with
   | .eql=>K (.b false)
   | .neq=>K (.b true)
   | _=>False
  | _=>False
 | _=>False
noncomputable def binR (op:BinOp) (t:Nat) (x y:AV) (K:AV→Prop):Prop:=match x with
 | .i k a=>match y with
  | .i k' b=>(match decide (k=k')with
   | false=>binD tt op t x y K
   | true=>match xd op k a b with
    | some v=>K v
    | none=>binD tt op t x y K)
  | _=>binD tt op t x y K
 | .nils _=>match y with
  | .nils _=>nilR2 tt op t true K
  | _=>binD tt op t x y K
 | .nn _ _=>match y with
  | .nils _=>nilR2 tt op t false K
  | _=>binD tt op t x y K
 | _=>binD tt op t x y K
noncomputable def fieldR (i:TI) (x:AV) (f:Nat) (K:AV→Prop):Prop:=match i.k with
 | .struct l=>match jr l f with
  | some (fo,fs)=>match x with
   | .ptr k b o=>K (.ptr k b (Bd o fo))
   | .el k h sz j o=>K (.el k h sz j (Bd o fo))
   | .d (.ref d)=>partD (cellsOf d) fo fs fun r=>K (.d r)
   | _=>False
  | none=>False
 | _=>False
inductive IxG (n:Int) (len:Nat) (K:Nat→Prop):Prop
 | mk (j:Nat) (hj:n=j) (hl:j<len) (k:K j):IxG n len K
inductive ByG (b:List UInt8) (n:Int) (K:Int→Prop):Prop
 | mk (c:UInt8) (h0:0≤n) (h:b[n.toNat]? = some c) (k:K c.toNat):ByG b n K
noncomputable def idxR (s:St) (i:TI) (x:AV) (n:Int) (K:AV→Prop):Prop:=match i.k with
 | .array len _=>IxG n len fun j=>match x with
  | .ptr k b o=>K (.ptr k b (Bd o (Nat.mul j i.esz)))
  | .el k h sz q o=>K (.el k h sz q (Bd o (Nat.mul j i.esz)))
  | .d (.ref d)=>partD (cellsOf d) (Nat.mul j i.esz) i.esz fun r=>K (.d r)
  | _=>False
 | .slice _=>match x with
  | .d (.list sz xs)=>Side (sz=i.esz) (Ix xs n fun x=>K (.d (.ref x)))
  | .sl k h=>obR s k fun ob=>match ob with
   | .arr h' _ sz _ xs=>Side (h=h'∧sz=i.esz) (Need (0≤n∧n.toNat<xs.length) (K (.el k h sz n.toNat 0)))
   | .rows h' _ _ _ _ _ xs=>Side (h=h'∧1=i.esz) (Need (0≤n∧n.toNat<xs.length) (K (.el k h 1 n.toNat 0)))
   | _=>False
  | _=>False
 | _=>False
noncomputable def vS (x:AV):Option (List AV):=match x with
 | .agg l=>some l
 | .d (.agg l)=>some (bN .d l)
 | _=>none
noncomputable def indexV (i:TI) (x:AV) (n:Int) (K:AV→Prop):Prop:=match i.k with
 | .array len e=>match vS x with
  | some l=>IxG n len fun j=>aE tt e fun ei=>cellsR l (Nat.mul j ei.size) ei.size fun l'=>mkVal ei l' K
  | none=>False
 | .string=>match x with
  | .d (.str b)=>ByG b n fun c=>K (.d (.int .u8 c))
  | _=>False
 | _=>False
noncomputable def fieldV (i:TI) (x:AV) (f:Nat) (K:AV→Prop):Prop:=match i.k with
 | .struct l=>match jr l f,jr i.ft f with
  | some (fo,_),some ft=>match vS x with
   | some cs=>aE tt ft fun fi=>cellsR cs fo fi.size fun l'=>mkVal fi l' K
   | none=>False
  | _,_=>False
 | _=>False
noncomputable def uw (place:Nat→Option (Nat×Nat)) (i:Nat) (v:AV) (cs:List AV) (K:List AV→Prop):Prop:=match place i with
  | some (off,n)=>match v with
   | .nils _=>match IF n 1,jr cs off with
    | true,some (.nils _)=>K cs
    | _,_=>False
   | v=>match v.cells? with
    | some l=>match IF (dB l) n with
     | true=>match zl (Bd off n) (dB cs)with
      | true=>force (setMany cs off l) fun cs'=>K cs'
      | false=>False
     | false=>False
    | none=>False
  | none=>False
noncomputable def sA (K:List AV→Prop) (place:Nat→Option (Nat×Nat)) (l:List (Nat×AV)):List AV→Prop :=
 Jn (motive:=fun _=>List AV→Prop) (fun cs=>K cs) (fun p _ ih cs=>match p with | (i,v)=>uw place i v cs ih) l
theorem rA(K:List AV→Prop)(place:Nat→Option (Nat×Nat))(i:Nat)(v:AV)(r:List (Nat×AV))(cs:List AV):sA K place ((i,v)::r) cs=uw place i v cs (sA K place r):=rfl
noncomputable def m6 (i:TI) (n:Nat):Option (Nat×Nat):=match i.k with
 | .struct l=>jr l n
 | .array _ _=>some (Nat.mul n i.esz,i.esz)
 | _=>none
noncomputable def pr (i:TI) (parts:List (Nat×AV)) (K:AV→Prop):Prop:=match i.k.isAgg with
 | true=>sA (fun cs=>match tf cs with | some ds=>K (.d (.agg ds)) | none=>K (.agg cs)) (m6 i) parts (bN zAV i.zero)
 | false=>False
noncomputable def vT (x:AV) (n:Nat) (K:AV→Prop):Prop:=match x with
 | .tup l=>match jr l n with | some v=>K v | none=>False
 | .d (.tup l)=>match jr l n with | some v=>K (.d v) | none=>False
 | _=>False
def sB (si di:TI)(x:AV)(K:AV→Prop):Prop:=match di.k,x with
 | .int k,.d (.int _ n)=>K (.d (.int k (k.wrap n)))
 | .int k,.i _ n=>K (.i k (k.wrap n))
 | .string,.d (.str s)=>match si.k with | .string=>K (.d (.str s)) | _=>False
 | _,_=>False
noncomputable def mA (t:TypeId) (v:AV) (K:AV→Prop):Prop:=match v with
 | .nils 0=>aE tt t fun i=>K (.nils i.esz)
 | v=>K v
noncomputable def opR (o:Oper) (s:St) (K:AV→Prop):Prop :=
 match o.op with
 | .move x=>mA tt o.type (s.eval x) K
 | .assign x=>mA tt o.type (s.eval x) K
 | .pick c a b=>match s.eval c with
  | .b true=>K (s.eval a)
  | .b false=>K (s.eval b)
  | _=>False
 | .fieldAddr t x f=>aE tt t fun i=>fieldR i (s.eval x) f K
 | .indexAddr t x ix=>match(s.eval ix).toD with
  | .d (.int _ n)=>aE tt t fun i=>idxR s i (s.eval x).toD n K
  | _=>False
 | .load t x=>aE tt t fun i=>loadR s i (s.eval x) K
 | .index t x ix=>match(s.eval ix).toD with
  | .d (.int _ n)=>aE tt t fun i=>indexV tt i (s.eval x) n K
  | _=>False
 | .field t x f=>aE tt t fun i=>fieldV tt i (s.eval x) f K
 | .nilCheck x=>match s.eval x with
  | .ptr k b o=>K (.ptr k b o)
  | .d (.ref d)=>K (.d (.ref d))
  | .d (.fn (.func f) l c)=>K (.d (.fn (.func f) l c))
  | .fn (.func f) l c=>K (.fn (.func f) l c)
  | _=>False
 | .binOp op t x y _=>match y with
  | .const .nilIface=>wL tt op t (s.eval x) K
  | _=>binR tt op t (s.eval x) (s.eval y) K
 | .unOp .not _ x=>match s.eval x with
  | .b true=>K (.b false)
  | .b false=>K (.b true)
  | .d (.bool b)=>K (.d (.bool (!b)))
  | _=>False
 | .unOp .neg _ x=>match s.eval x with
  | .d (.int k n)=>K (.d (.int k (k.wrap (-n))))
  | .i k n=>K (.i k (k.wrap (-n)))
  | _=>False
 | .extract x n=>vT (s.eval x) n K
 | .makeFunc fn first caps=>match lj (bN s.eval first.toList),lj (bN s.eval caps.toList)with
  | some a,some b=>K (.d (.fn fn a b))
  | _,_=>force (bN s.eval first.toList) fun a=>force (bN s.eval caps.toList) fun b=>K (.fn fn a b)
 | .convert a b x=>aE tt a fun si=>aE tt b fun di=>sB si di (s.eval x) K
 | .makeInterface t x=>aE tt t fun i=>match i.k with
  | .iface=>False
  | _=>match(s.eval x).toD with
   | .d d=>K (.d (.ifc t d))
   | _=>False
 | .call c=>match c.callee with
  | .builtin .len=>match bN s.eval c.args.toList,c.argTypes.toList with
   | [x],[t]=>aE tt t fun i=>lenR s i x K
   | _,_=>False
  | .builtin .cap=>match bN s.eval c.args.toList,c.argTypes.toList with
   | [.nils _],[t]=>aE tt t fun i=>match i.k with | .slice _=>K (.i .i64 0) | _=>False
   | _,_=>False
  | .builtin .max=>match bN (fun x=>(s.eval x).toD) c.args.toList with
   | [.d (.int k a),.d (.int k' b)]=>match decide (k=k')with | true=>K (.d (.int k (max a b))) | false=>False
   | _=>False
  | .builtin .min=>match bN (fun x=>(s.eval x).toD) c.args.toList with
   | [.d (.int k a),.d (.int k' b)]=>match decide (k=k')with | true=>K (.d (.int k (min a b))) | false=>False
   | _=>False
  | _=>False
 | _=>False
noncomputable def NR (s:St) (v:AV) (K:St→AV→Prop):Prop:=match v with
 | .sl k h=>match look s.ob k with
  | some (.arr h' e sz _ xs)=>Side (h=h') (s.setO k (.arr h' e sz true xs) fun s'=>K s' (.d (.list sz xs)))
  | some (.rows h' e _ rsz _ none xs)=>Side (h=h') (Eqv (xs.map (D.list rsz)) fun zs=>s.setO k (.arr h' e 1 true zs) fun s'=>K s' (.d (.list 1 zs)))
  | _=>False
 | v=>K s v
noncomputable def NK (l:List AV):St→(St→List AV→Prop)→Prop :=
 Jn (motive:=fun _=>St→(St→List AV→Prop)→Prop) (fun s K=>K s []) (fun v _ ih s K=>NR s v fun s' v'=>ih s' fun s'' r'=>K s'' (v'::r')) l
theorem qm(v:AV)(r:List AV)(s:St)(K:St→List AV→Prop):NK (v::r) s K=NR s v fun s' v'=>NK r s' fun s'' r'=>K s'' (v'::r'):=rfl
noncomputable def ma (s:St) (v:AV) (K:St→AV→Prop):Prop:=match v with
 | .agg l=>NK l s fun s' l'=>match lj l' with | some ds=>K s' (.d (.agg ds)) | none=>K s' (.agg l')
 | v=>NR s v K
noncomputable def kj (l:List AV):St→(St→List AV→Prop)→Prop :=
 Jn (motive:=fun _=>St→(St→List AV→Prop)→Prop) (fun s K=>K s []) (fun v _ ih s K=>ma s v fun s' v'=>ih s' fun s'' r'=>K s'' (v'::r')) l
theorem qn(v:AV)(r:List AV)(s:St)(K:St→List AV→Prop):kj (v::r) s K=ma s v fun s' v'=>kj r s' fun s'' r'=>K s'' (v'::r'):=rfl
noncomputable def qo (own:Bool) (vs:List AV) (s:St) (K:St→List AV→Prop):Prop:=match own with | true=>K s vs | false=>kj vs s K
noncomputable def vU (v:AV) (t:TypeId) (K:AV→Prop):Prop:=match v with
 | .nils _=>aE tt t fun i=>K (.d (.list i.esz []))
 | v=>kH v.toD K
noncomputable def ux (own:Bool) (v:AV) (t:TypeId) (K:AV→Prop):Prop:=match own,v with
 | true,.nils _=>aE tt t fun i=>K (.nils i.esz)
 | _,v=>vU tt v t K
noncomputable def m7 (own:Bool) (vs:List AV):List TypeId→(List AV→Prop)→Prop :=
 Jn (motive:=fun _=>List TypeId→(List AV→Prop)→Prop) (fun _ K=>K [])
  (fun v _ ih ts K=>match ts with | []=>False | t::ts=>ux tt own v t fun v'=>ih ts fun r'=>K (v'::r')) vs
theorem qp(own:Bool)(v:AV)(r:List AV)(t:TypeId)(ts:List TypeId)(K:List AV→Prop):m7 tt own (v::r) (t::ts) K=ux tt own v t fun v'=>m7 tt own r ts fun r'=>K (v'::r'):=rfl
def AV.le(a b:AV):Prop:=∀M v,GamA M a v→GamA M b v
structure RenOK(ren:Nat→Nat)(os rest:List (Nat×Ob)):Prop where
 inj:∀k k' o o',look os k=some o→look os k'=some o'→ren k=ren k'→k=k'
 apart:∀k o,look os k=some o→look rest (ren k)=none
def js (ren:Nat→Nat)(os:List (Nat×Ob)):List (Nat×Ob):=os.map fun p=>(ren p.1,p.2)
inductive CallG (f:FuncId) (args:List AV) (ob:List (Nat×Ob)) (K:AV→List (Nat×Ob)→Prop) (Kp:D→List (Nat×Ob)→Prop):Prop where
 | pure (r:AV) (h:ACalls P f args [] fun e os=>e=.ret r∧os=[]) (k:K r ob)
 | ex {β:Type} (r:β→AV) (R:β→Prop) (h:ACalls P f args [] fun e os=>∃x,R x∧e=.ret (r x)∧os=[]) (k:∀x,R x→K (r x) ob)
 | gen (args':List AV) (os:List (Nat×Ob)) (Q:AE→List (Nat×Ob)→Prop) (ren:Nat→Nat) (rest:List (Nat×Ob))
   (ha:All2 AV.le args args')
   (hos:∀k o,look os k=some o→look ob (ren k)=some o) (hr:RenOK ren os rest)
   (hrest:∀k o,look rest k=some o→look ob k=some o)
   (h:ACalls P f args' os Q)
   (k:∀r os',Q (.ret r) os'→∃r',AV.le r r'∧K r' (js ren os'++rest))
   (kp:∀d os',Q (.pan d) os'→Kp d (js ren os'++rest))
noncomputable def qq (f:FuncId) (args:List AV) (s:St) (dst:Option Nat) (K:St→Prop) (Kp:D→St→Prop):Prop:=match s with
 | ⟨n,tm,ob⟩=>force args fun args=>CallG P f args ob (fun r ob'=>St.put ⟨n,tm,ob'⟩ dst r K) (fun d ob'=>Kp d ⟨n,tm,ob'⟩)
noncomputable def m8 (s:St) (esz:Nat) (v:AV) (K:List D→Prop):Prop:=match v.toD with
 | .nils _=>K []
 | .d (.list sz ys)=>Side (sz=esz) (K ys)
 | .sl k h=>obR s k fun ob=>match ob with
  | .arr h' _ sz _ ys=>Side (h=h'∧sz=esz) (K ys)
  | _=>False
 | _=>False
noncomputable def gw (s:St) (k d:Nat) (e sz:Nat) (xs:List D) (K:St→Prop):Prop :=
 ∀h:Value,s.setO k (.arr h e sz false xs) fun s'=>s'.putN d (.sl k h) K
noncomputable def pt (i ei:TI) (e:Nat) (s:St) (kn d:Nat) (x:AV) (ys:List D) (K:St→Prop):Prop:=match x with
 | .nils _=>Need (ys.length*ei.bytes≤140737488355328∧ys.length≤9223372036854775807) (Eqv ys fun zs=>gw s kn d e i.esz zs K)
 | .sl k h=>match look s.ob k with
  | some (.arr h' e' sz fz xs)=>Side (h=h'∧e=e'∧sz=i.esz)
    (Need ((xs.length+ys.length)*ei.bytes≤140737488355328∧xs.length+ys.length≤9223372036854775807)
     (Eqv (xs++ys) fun zs=>∀h2:Value,s.setO k (.arr h2 e' sz fz zs) fun s'=>s'.putN d (.sl k h2) K))
  | some (.rows h' e' re rsz hs none xs)=>match ys with
   | [.nilsl]=>Side (h=h'∧e=e'∧i.esz=1)
    (Need ((xs.length+1)*ei.bytes≤140737488355328∧xs.length+1≤9223372036854775807)
     (REqv (xs++[[]]) fun zs=>∀(h2:Value) (hs':Nat→Value),s.setO k (.rows h2 e' re rsz hs' none zs) fun s'=>s'.putN d (.sl k h2) K))
   | _=>False
  | _=>False
 | .rw k j h=>match look s.ob k with
  | some (.rows h' e' re rsz hs none xs)=>match IF kn k with
   | false=>Side (h=hs j∧e=re∧rsz=i.esz) (RIx xs j fun x =>
     (Need ((x.length+ys.length)*ei.bytes≤140737488355328∧x.length+ys.length≤9223372036854775807)
      (Eqv (x++ys) fun zs=>∀h2:Value,s.setO k (.rows h' e' re rsz hs (some j) xs) fun s1=>s1.setO kn (.arr h2 re rsz false zs) fun s2=>s2.putN d (.sl kn h2) K)))
   | true=>False
  | _=>False
 | .cl sz xs=>Side (sz=i.esz) (Need ((xs.length+ys.length)*ei.bytes≤140737488355328∧xs.length+ys.length≤9223372036854775807)
   (Eqv (xs++ys) fun zs=>s.putN d (.d (.list sz zs)) K))
 | _=>False
noncomputable def NZ (e:Nat) (s:St) (kn d:Nat) (x:AV) (ys:List D) (K:St→Prop):Prop:=match x with
 | .nils _=>Need (ys.length≤140737488355328) (Eqv ys fun zs=>gw s kn d e 1 zs K)
 | .sl k h=>match look s.ob k with
  | some (.arr h' e' sz fz xs)=>Side (h=h'∧e=e'∧sz=1) (Need (xs.length+ys.length≤140737488355328) (Eqv (xs++ys) fun zs=>∀h2:Value,s.setO k (.arr h2 e' sz fz zs) fun s'=>s'.putN d (.sl k h2) K))
  | _=>False
 | _=>False
noncomputable def na (i ei:TI) (e:Nat) (s:St) (kn d:Nat) (x:AV) (n:Int) (K:St→Prop):Prop:=match x with
 | .nils _=>Need (0<n∧n*ei.bytes≤140737488355328∧n≤9223372036854775807)
   (match ei.k.isAgg,ei.zero with
    | false,[z]=>Eqv (Iu n.toNat z) fun zs=>gw s kn d e i.esz zs K
    | true,zs=>Eqv (Iu n.toNat (.agg zs)) fun zs=>gw s kn d e i.esz zs K
    | _,_=>False)
 | _=>False
noncomputable def uy (nl:Bool) (ei:TI) (v:AV) (K:D→Prop):Prop:=match v.toD with
   | .d x=>match(AV.d x).cells? with
    | some l=>match IF (dB l) ei.size with
     | true=>K x
     | false=>False
    | none=>False
   | .nils _=>match nl with
    | true=>match ei.zero,IF ei.size 1 with | [.list _ []],true=>K .nilsl | _,_=>False
    | false=>match ei.zero,IF ei.size 1 with | [.list sz []],true=>K (.list sz []) | _,_=>False
   | _=>False
noncomputable def lm (nl:Bool) (ei:TI) (n:Nat) (l:List (Nat×AV)) (K:List D→Prop):Prop :=
 Jn (motive:=fun _=>Nat→(List D→Prop)→Prop) (fun _ K=>K []) (fun p _ ih n K=>match p with
  | (m,v)=>match IF n m with
   | true=>uy nl ei v fun x=>ih (Nat.succ n) fun l=>K (x::l)
   | false=>False) l n K
theorem qr(nl:Bool)(ei:TI)(n m:Nat)(v:AV)(r:List (Nat×AV))(K:List D→Prop):lm nl ei n ((m,v)::r) K=match IF n m with
   | true=>uy nl ei v fun x=>lm nl ei (Nat.succ n) r fun l=>K (x::l)
   | false=>False:=rfl
def jo (v:Option AV)(dflt:Int)(K:Int→Prop):Prop:=match v with
 | none=>K dflt
 | some v=>match v.toD with
  | .d (.int _ n)=>K n
  | _=>False
noncomputable def Oc (s:St) (i:TI) (x v:AV) (K:St→Prop):Prop:=match x with
 | .ptr k b o=>match look s.ob k with
  | some (.cells b' cs)=>match v.cells? with
   | some l=>match IF (dB l) i.size with
    | true=>match zl (Bd o i.size) (dB cs)with
     | true=>Side (b=b') (force (setMany cs o l) fun cs'=>s.setO k (.cells b' cs') K)
     | false=>False
    | false=>False
   | none=>False
  | _=>False
 | .el k h sz j o=>match look s.ob k with
  | some (.arr h' e sz' false xs)=>Side (h=h'∧sz=sz') (Ix xs j fun x=>match v.cells?.bind lj with
    | some ds=>match IF (dB ds) i.size with
     | true=>match zl (Bd o i.size) (dB (cellsOf x))with
      | true=>match x with
       | .agg cs=>force (setMany cs o ds) fun cs'=>Eqv (xs.set j (.agg cs')) fun zs=>s.setO k (.arr h' e sz' false zs) K
       | _=>match ds with
        | [d]=>Eqv (xs.set j d) fun zs=>s.setO k (.arr h' e sz' false zs) K
        | _=>False
      | false=>False
     | false=>False
    | none=>False)
  | some (.rows h' e re rsz hs (some q) xs)=>match v with
   | .sl kn h2=>match look s.ob kn with
    | some (.arr h3 re' rsz' false zs)=>match IF kn k,IF i.size 1,o with
     | false,true,0=>Side (h=h'∧sz=1∧j=q∧h2=h3∧re=re'∧rsz=rsz') (Need (j<xs.length) (REqv (xs.set j zs) fun ys=>∀hs':Nat→Value,
       s.setO kn (.arr (.slice none 0 0) re rsz false []) fun s1=>s1.setO k (.rows h' e re rsz hs' none ys) K))
     | _,_,_=>False
    | _=>False
   | _=>False
  | _=>False
 | _=>False
inductive ArrS (cs:List D) (n sz:Nat) (K:List D→Prop):Prop
 | mk (xs:List D) (h1:xs.length=n) (h2:xs.flatMap cellsOf=cs) (h3:∀x∈xs,(cellsOf x).length=sz) (k:K xs):ArrS cs n sz K
inductive ArrC (cs:List AV) (n sz:Nat) (K:List D→Prop):Prop
 | mk (xs:List D) (h1:xs.length=n) (h2:cs.map AV.toD=(xs.flatMap cellsOf).map AV.d) (h3:∀x∈xs,(cellsOf x).length=sz) (k:K xs):ArrC cs n sz K
inductive StrG (xs:List D) (K:List UInt8→Prop):Prop
 | mk (l:List Int) (h:xs=l.map (D.int .u8)) (k:K (l.map fun n=>UInt8.ofNat n.toNat)):StrG xs K
noncomputable def uz (s:St) (si di:TI) (x:AV) (dst:Option Nat) (K:St→Prop) (other:Prop):Prop:=match di.k,si.k with
 | .string,.slice e=>aE tt e fun ei=>match ei.k with
  | .int .u8=>m8 s 1 x fun xs=>StrG xs fun b=>s.put dst (.d (.str b)) K
  | _=>False
 | .slice e,.string=>aE tt e fun ei=>match ei.k,x with
  | .int .u8,.d (.str b)=>Eqv (b.map fun c=>D.int .u8 c.toNat) fun zs=>s.put dst (.d (.list 1 zs)) K
  | _,_=>False
 | _,_=>other
noncomputable def pu (s:St) (i:TI) (dst:Option Nat) (x:AV) (lo hi:Option AV) (K:St→Prop):Prop:=match i.k with
 | .slice _=>match uv dst an.trunc,x with
  | true,.sl k h=>match dst,lo,look s.ob k with
   | some d,none,some (.arr h' e sz false xs)=>Side (h=h') (jo hi xs.length fun n=>Need (0≤n∧n≤xs.length)
     (Eqv (xs.take n.toNat) fun zs=>∀h2:Value,s.setO k (.arr h2 e sz false zs) fun s'=>s'.putN d (.sl k h2) K))
   | _,_,_=>False
  | _,v=>NR s v.toD fun s' v'=>match v' with
   | .d (.list sz xs)=>jo hi xs.length fun n=>jo lo 0 fun m=>Need (0≤m∧m≤n∧n≤xs.length∧sz=i.esz)
     (Eqv ((xs.take n.toNat).drop m.toNat) fun zs=>s'.put dst (.d (.list sz zs)) K)
   | .nils sz=>jo hi 0 fun n=>jo lo 0 fun m=>Need (m=0∧n=0) (s'.put dst (.nils sz) K)
   | _=>False
 | .string=>match x with
  | .d (.str b)=>jo hi b.length fun n=>jo lo 0 fun m=>Need (0≤m∧m≤n∧n≤b.length) (s.put dst (.d (.str ((b.take n.toNat).drop m.toNat))) K)
  | _=>False
 | .array n _=>match lo,hi with
  | none,none=>match x.toD with
   | .d (.ref d)=>ArrS (cellsOf d) n i.esz fun xs=>s.put dst (.d (.list i.esz xs)) K
   | .ptr k b o=>match look s.ob k with
    | some (.cells b' cs)=>Side (b=b') (cellsR cs o (Nat.mul n i.esz) fun l=>ArrC l n i.esz fun xs=>s.setO k (.arr (.slice none 0 0) 0 1 false []) fun s'=>s'.put dst (.d (.list i.esz xs)) K)
    | _=>False
   | _=>False
  | none,some v=>match x.toD with
   | .d (.ref d)=>ArrS (cellsOf d) n i.esz fun xs=>jo (some v) n fun m=>Need (0≤m∧m≤n) (Eqv (xs.take m.toNat) fun zs=>s.put dst (.d (.list i.esz zs)) K)
   | _=>False
  | _,_=>False
 | _=>False
noncomputable def vwE (s:St) (i:TI) (dst:Option Nat) (x:AV) (lo hi:Option AV) (K:St→Prop):Prop:=match i.k,x with
 | .slice _,.sl k h=>match look s.ob k with
  | some (.arr h' _ sz _ xs)=>Side (h=h') (jo hi xs.length fun n=>jo lo 0 fun m=>Need (0≤m∧m≤n∧n≤xs.length∧sz=i.esz) (s.put dst (.vw k h sz m.toNat n.toNat) K))
  | _=>False
 | .array n _,.ptr k b o=>match lo,hi,look s.ob k with
  | none,none,some (.cells b' cs)=>Side (b=b'∧i.esz=1∧0<n) (s.put dst (.vw k (.slice (some ⟨b,0,none⟩) (Bd o n) (Bd o n)) 1 o (Bd o n)) K)
  | _,_,_=>False
 | _,_=>False
noncomputable def pv (s:St) (i:TI) (dst:Option Nat) (x:AV) (lo hi:Option AV) (K:St→Prop):Prop:=match uv dst an.vws with
 | true=>vwE s i dst x lo hi K
 | false=>pu an s i dst x lo hi K
noncomputable def vV (s:St) (v:AV) (K:List D→Prop):Prop:=match v.toD with
 | .nils _=>K []
 | .d (.list sz ys)=>Side (sz=1) (K ys)
 | .sl k h=>obR s k fun ob=>match ob with
  | .arr h' _ sz _ ys=>Side (h=h'∧sz=1) (K ys)
  | _=>False
 | .vw k h sz lo hi=>obR s k fun ob=>match ob with
  | .arr h' _ sz' _ ys=>Side (h=h'∧sz=1∧sz'=1) (Need (lo≤hi∧hi≤ys.length) (K ((ys.take hi).drop lo)))
  | _=>False
 | _=>False
def over {α:Type}(xs:List α)(lo:Nat)(cs:List α):List α:=xs.take lo++cs++xs.drop (lo+cs.length)
noncomputable def sC (s:St) (dst:Option Nat) (k:Nat) (h:Value) (e:Nat) (xs:List D) (lo hi:Nat) (y:AV) (K:St→Prop):Prop :=
 vV s y fun ys=>Need (lo≤hi∧hi≤xs.length) (Eqv (over xs lo (ys.take (hi-lo))) fun zs=>LnN (min ys.length (hi-lo)) fun n=>s.setO k (.arr h e 1 false zs) fun s'=>s'.put dst (.d (.int .i64 n)) K)
noncomputable def sD (l:List D):List D:=Jn [] (fun x _ ih=>oo (cellsOf x) ih) l
noncomputable def sE (s:St) (dst:Option Nat) (k b:Nat) (cs:List AV) (lo hi:Nat) (y:AV) (K:St→Prop):Prop :=
 vV s y fun ys=>Eqv (ys.take (Nat.sub hi lo)) fun zs=>match IF (dB zs) (Nat.sub hi lo),zl (Nat.succ lo) hi,zl hi (dB cs)with
  | true,true,true=>force (setMany cs lo (bN .d (sD zs))) fun cs'=>s.setO k (.cells b cs') fun s'=>s'.put dst (.d (.int .i64 (Nat.sub hi lo:Nat))) K
  | _,_,_=>False
noncomputable def uA (s:St) (dst:Option Nat) (x y:AV) (K:St→Prop):Prop:=match x with
 | .sl k h=>match look s.ob k with
  | some (.arr h' e sz false xs)=>Side (h=h'∧sz=1) (sC s dst k h e xs 0 xs.length y K)
  | _=>False
 | .vw k h sz lo hi=>match look s.ob k with
  | some (.arr h' e sz' false xs)=>Side (h=h'∧sz=1∧sz'=1) (sC s dst k h e xs lo hi y K)
  | some (.cells b cs)=>Side (h=.slice (some ⟨b,0,none⟩) hi hi∧sz=1) (sE s dst k b cs lo hi y K)
  | _=>False
 | _=>False
noncomputable def uB (i ei:TI) (s:St) (x:AV) (K:St→Prop):Prop:=match x with
 | .vw k h sz lo hi=>match look s.ob k with
  | some (.arr h' e sz' false xs)=>Side (h=h'∧i.esz=sz') (Need (lo=0∧hi=xs.length) (match ei.k.isAgg,ei.zero with
   | false,[z]=>Eqv (Iu xs.length z) fun zs=>s.setO k (.arr h' e sz' false zs) K
   | true,z=>Eqv (Iu xs.length (.agg z)) fun zs=>s.setO k (.arr h' e sz' false zs) K
   | _,_=>False))
  | _=>False
 | _=>False
noncomputable def pw (s:St) (i:TI) (dst:Option Nat) (x:AV) (lo hi mx:Option AV) (K:St→Prop):Prop:=match i.k,hi with
 | .slice _,some _=>NR s x.toD fun s' v'=>match v' with
   | .d (.list sz xs)=>jo hi 0 fun n=>jo mx 0 fun n'=>jo lo 0 fun m=>Need (0≤m∧m≤n∧n≤xs.length∧n'=n∧sz=i.esz)
     (Eqv ((xs.take n.toNat).drop m.toNat) fun zs=>s'.put dst (.cl sz zs) K)
   | .nils sz=>jo hi 0 fun n=>jo mx 0 fun n'=>jo lo 0 fun m=>Need (m=0∧n=0∧n'=0) (s'.put dst (.nils sz) K)
   | _=>False
 | _,_=>False
noncomputable def wM (s:St) (v:AV) (K:List (D×D)→Prop):Prop:=match v with
 | .mp k b=>match look s.ob k with
  | some (.map b' es)=>Side (b=b') (K es)
  | _=>False
 | .d (.mp es)=>K es
 | .d .nilmp=>K []
 | _=>False
noncomputable def uC (ki:TI) (v:AV) (K:D→Prop):Prop:=match v.toD with
 | .d x=>Need (gX ki x=true) (K x)
 | _=>False
def sF (ei:TI):Option D:=match ei.k.isAgg with
 | false=>match ei.zero with | [z]=>some z | _=>none
 | true=>some (.agg ei.zero)
def vW (ok:Bool)(v:D)(b:Bool):AV:=match ok with | true=>.d (.tup [v,.bool b]) | false=>.d v
noncomputable def px (i:TI) (t t':Nat) (d:D) (ok:Bool) (K:AV→Prop):Prop:=match i.k with
 | .iface=>False
 | _=>match IF t t' with
  | true=>match ok with
   | true=>K (.tup [.d d,.b true])
   | false=>K (.d d)
  | false=>match ok with
   | true=>match sF i with
    | some z=>K (.tup [.d z,.b false])
    | none=>False
   | false=>False
noncomputable def py (s:St) (ki ei:TI) (dst:Option Nat) (m x:AV) (ok:Bool) (K:St→Prop):Prop :=
 wM s m fun es=>uC ki x fun kd=>Need (∀e∈es,gX ki e.1=true)
  (match sF ei with
   | some z=>LkG (kI (cellsOf kd) es) z fun v b=>s.put dst (vW ok v b) K
   | none=>False)
noncomputable def iE (s:St) (ki:TI) (et:TypeId) (m x v:AV) (K:St→Prop):Prop :=
 ma s v fun s v'=>vU tt v' et fun v''=>match v'' with
  | .d vd=>match m with
   | .mp k b=>match look s.ob k with
    | some (.map b' es)=>Side (b=b') (uC ki x fun kd=>Need (∀e∈es,gX ki e.1=true) (MEqv (NY (cellsOf kd) kd vd es) fun es'=>s.setO k (.map b es') K))
    | _=>False
   | _=>False
  | _=>False
inductive NextG (rem:List (D×D)) (K0:Prop) (K1:(D×D)→List (D×D)→Prop):Prop
 | mk {α:Type} (f:α→D×D) (l:List α) (hl:l.map f=rem) (h0:l=[]→K0) (h1:∀pre e post,l=pre++e::post→K1 (f e) ((pre++post).map f)):NextG rem K0 K1
noncomputable def rB (s:St) (kk d:Nat) (x:AV) (K:St→Prop):Prop:=match x with
 | .mp k b=>match look s.ob k with
  | some (.map b' es)=>Side (b=b') (∀ib,s.setO kk (.mit ib k b es es none) fun s'=>s'.putN d (.it kk ib) K)
  | _=>False
 | _=>False
noncomputable def uD (s:St) (dst:Option Nat) (x:AV) (K:St→Prop):Prop:=match x with
 | .it k b=>match look s.ob k with
  | some (.mit b' km mb es rem _)=>match look s.ob km with
   | some (.map mb' es')=>Side (b=b'∧mb=mb'∧es=es') (NextG rem (s.put dst (.tup [.b false]) K) fun e rem'=>s.setO k (.mit b km mb es rem' (some e)) fun s'=>s'.put dst (.tup [.b true,.d e.1,.d e.2]) K)
   | _=>False
  | _=>False
 | _=>False
noncomputable def rC (s:St) (x:AV) (K:AV→Prop):Prop:=match x with
 | .it k b=>match look s.ob k with
  | some (.mit b' km mb es _ (some e))=>match look s.ob km with
   | some (.map mb' es')=>Side (b=b'∧mb=mb'∧es=es') (K (.tup [.d e.1,.d e.2]))
   | _=>False
  | _=>False
 | _=>False
noncomputable def pz (s:St) (x:Operand) (K:St→Prop):Prop:=match x with
 | .tmp d=>match s.eval x with
  | .ptr k b 0=>match look s.ob k with
   | some (.cells b' cs)=>Side (b=b') (match lj cs with
    | some ds=>force ds fun ds=>s.setO k (.arr (.slice none 0 0) 0 1 false []) fun s'=>s'.putN d (.d (.ref (.agg ds))) K
    | none=>False)
   | _=>False
  | _=>False
 | _=>False
noncomputable def vX (x:Operand) (l:List Nat):Bool:=match x with | .tmp d=>rz d l | _=>false
noncomputable def opE (o:Oper) (s:St) (K:St→Prop) (Kp:D→St→Prop):Prop :=
 match o.op with
 | .alloc t=>match o.dst with
  | some d=>aE tt t fun i=>match rz d an.imm with
   | true=>s.put o.dst (.d (.ref (.agg i.zero))) K
   | false=>match rz d an.own with
    | true=>match i.k with
     | .slice e=>match i.zero with
      | [.list sz []]=>∀b,s.setO (Bd an.off d) (.cells b [.sl (Bd an.off (Bd d 500)) (.slice none 0 0)]) fun s1=>s1.setO (Bd an.off (Bd d 500)) (.arr (.slice none 0 0) e sz false []) fun s2=>s2.putN d (.ptr (Bd an.off d) b 0) K
      | _=>False
     | .struct _=>match i.ft,i.zero with
      | [_,tb],[.nilptr,.list 1 []]=>aE tt tb fun ib=>match ib.k with
       | .slice e=>∀b,s.setO (Bd an.off d) (.bld b t e (.slice none 0 0) []) fun s'=>s'.putN d (.ptr (Bd an.off d) b 0) K
       | _=>False
      | _,_=>False
     | _=>False
    | false=>force (bN zAV i.zero) fun cs=>∀b,s.setO (Bd an.off d) (.cells b cs) fun s'=>s'.putN d (.ptr (Bd an.off d) b 0) K
  | none=>False
 | .box t x=>match o.dst with
  | some d=>aE tt t fun i=>mA tt t (s.eval x) fun v=>match rz d an.imm with
   | true=>ma s v fun s v=>match v.cells?.bind lj with
    | some ds=>match IF (dB ds) i.size with | true=>force ds fun ds=>s.put o.dst (.d (.ref (.agg ds))) K | false=>False
    | none=>False
   | false=>match v.cells? with
    | some l=>match IF (dB l) i.size with
     | true=>force l fun cs=>∀b,s.setO (Bd an.off d) (.cells b cs) fun s'=>s'.putN d (.ptr (Bd an.off d) b 0) K
     | false=>False
    | none=>False
  | none=>False
 | .store t x y=>match o.dst with
  | none=>aE tt t fun i=>match vX y an.vws with
   | true=>ma s (s.eval y) fun s' v=>mA tt t v fun v=>Oc s' i (s'.eval x) v K
   | false=>match vX x an.vws with
   | true=>mA tt t (s.eval y) fun v=>Oc s i (s.eval x) v fun s'=>pz s' x K
   | false=>mA tt t (s.eval y) fun v=>Oc s i (s.eval x) v K
  | some _=>False
 | .build t parts=>aE tt t fun i=>qo (uv o.dst an.own) (bN (fun p=>s.eval p.2) parts.toList) s fun s' vs=>pr i (po (bN (fun p=>p.1) parts.toList) vs) fun r=>s'.put o.dst r K
 | .buildSlice t n parts=>match o.dst with
  | some d=>aE tt t fun i=>match i.k with
   | .slice e=>aE tt e fun ei=>kj (bN (fun p=>s.eval p.2) parts.toList) s fun s' vs=>match(IF (dB parts.toList) n&&zl (Nat.mul n ei.size) 16777216)with
    | true=>lm (rz d an.nob) ei 0 (po (bN (fun p=>p.1) parts.toList) vs) fun xs=>gw s' (Bd an.off d) d e i.esz xs K
    | false=>False
   | _=>False
  | none=>False
 | .makeSlice t l c=>match o.dst with
  | some d=>match(s.eval l).toD,(s.eval c).toD with
   | .d (.int _ n),.d (.int _ m)=>aE tt t fun i=>match i.k with
    | .slice e=>aE tt e fun ei=>Need (0≤n∧n≤m∧m*ei.bytes≤140737488355328∧m≤9223372036854775807)
      (match ei.k.isAgg,ei.zero with
       | false,[z]=>Eqv (Iu n.toNat z) fun zs=>gw s (Bd an.off d) d e i.esz zs K
       | true,zs=>Eqv (Iu n.toNat (.agg zs)) fun zs=>gw s (Bd an.off d) d e i.esz zs K
       | _,_=>False)
    | _=>False
   | _,_=>False
  | none=>False
 | .slice t x lo hi none=>aE tt t fun i=>match vX x an.vws,s.eval x with
  | true,.ptr _ _ _=>pz s x fun s'=>pv an s' i o.dst (s'.eval x) (lo.map s'.eval) (hi.map s'.eval) K
  | _,_=>pv an s i o.dst (s.eval x) (lo.map s.eval) (hi.map s.eval) K
 | .slice t x lo hi (some mx)=>aE tt t fun i=>pw s i o.dst (s.eval x) (lo.map s.eval) (hi.map s.eval) (some (s.eval mx)) K
 | .makeMap t none=>match o.dst with
  | some d=>∀b,s.setO (Bd an.off d) (.map b []) fun s'=>s'.putN d (.mp (Bd an.off d) b) K
  | none=>False
 | .range t x=>match o.dst with
  | some d=>aE tt t fun i=>match i.k with
   | .map _ _=>rB s (Bd an.off d) d (s.eval x) K
   | _=>False
  | none=>False
 | .next x false=>uD s o.dst (s.eval x) K
 | .entry x=>rC s (s.eval x) fun v=>s.put o.dst v K
 | .lookup t m x ok=>aE tt t fun i=>match i.k with
  | .map kt et=>aE tt kt fun ki=>aE tt et fun ei=>py s ki ei o.dst (s.eval m) (s.eval x) ok K
  | _=>False
 | .mapUpdate t m x v=>match o.dst with
  | none=>aE tt t fun i=>match i.k with
   | .map kt et=>aE tt kt fun ki=>iE tt s ki et (s.eval m) (s.eval x) (s.eval v) K
   | _=>False
  | some _=>False
 | .insert t m x v=>match o.dst with
  | none=>aE tt t fun i=>match i.k with
   | .map kt et=>aE tt kt fun ki=>iE tt s ki et (s.eval m) (s.eval x) (s.eval v) K
   | _=>False
  | some _=>False
 | .call c=>match c.callee with
  | .builtin .append=>match o.dst,bN s.eval c.args.toList,c.argTypes.toList with
   | some d,[x,y],[t,t']=>match IF t t' with
    | true=>aE tt t fun i=>match i.k with
     | .slice e=>aE tt e fun ei=>m8 s i.esz y fun ys=>pt i ei e s (Bd an.off d) d x ys K
     | _=>False
    | false=>aE tt t fun i=>aE tt t' fun i'=>match i.k,i'.k,y.toD with
     | .slice e,.int _,.d (.int .i64 n)=>aE tt e fun ei=>na i ei e s (Bd an.off d) d x n K
     | .slice e,.string,.d (.str b)=>aE tt e fun ei=>match ei.k,ei.zero with
      | .int .u8,[.int .u8 n]=>Side (n=0∧ei.size=1∧ei.bytes=1) (Eqv (b.map fun c=>D.int .u8 c.toNat) fun ys=>NZ e s (Bd an.off d) d x ys K)
      | _,_=>False
     | _,_,_=>False
   | _,_,_=>False
  | .builtin .copy=>match bN s.eval c.args.toList,c.argTypes.toList with
   | [x,y],[t,_]=>aE tt t fun i=>match i.k,IF i.esz 1 with
    | .slice _,true=>uA s o.dst x y K
    | _,_=>False
   | _,_=>False
  | .builtin .clear=>match o.dst,bN s.eval c.args.toList,c.argTypes.toList with
   | none,[x],[t]=>aE tt t fun i=>match i.k with
    | .slice e=>aE tt e fun ei=>uB i ei s x K
    | _=>False
   | _,_,_=>False
  | .value x=>qo (uv o.dst an.own) (bN s.eval c.args.toList) s fun s' vs=>m7 tt (uv o.dst an.own) vs c.argTypes.toList fun vs'=>match s.eval x with
    | .d (.fn (.func f) first caps)=>qq P f (oo (bN .d first) (oo vs' (bN .d caps))) s' o.dst K Kp
    | .fn (.func f) first caps=>qq P f (oo first (oo vs' caps)) s' o.dst K Kp
    | _=>False
  | _=>False
 | .typeAssert x _ t' ok=>match s.eval x with
  | .d (.ifc t d)=>aE tt t' fun i=>px i t t' d ok fun v=>s.put o.dst v K
  | _=>False
 | .panic x=>match s.eval x with
  | .d (.ifc t d)=>Kp (.ifc t d) s
  | _=>False
 | _=>False
def isR:Op→Bool
 | .move _ | .assign _ | .pick .. | .fieldAddr .. | .indexAddr .. | .load .. | .nilCheck _ | .binOp .. | .unOp .. | .extract .. | .makeFunc .. | .convert .. | .makeInterface .. | .index .. | .field ..=>true
 | .call c=>match c.callee with
  | .builtin .len | .builtin .cap | .builtin .max | .builtin .min=>true
  | _=>false
 | _=>false
noncomputable def opA (o:Oper) (s:St) (K:St→Prop) (Kp:D→St→Prop):Prop:=match isR o.op with
 | true=>match o.op with
  | .assign x=>match vX x an.vws,s.eval x with
   | true,.sl k h=>NR s (.sl k h) fun s' v=>s'.put o.dst v K
   | _,_=>opR tt o s fun v=>s.put o.dst v K
  | .convert a b x=>aE tt a fun si=>aE tt b fun di=>uz tt s si di (s.eval x) o.dst K (opR tt o s fun v=>s.put o.dst v K)
  | _=>opR tt o s fun v=>s.put o.dst v K
 | false=>opE P tt an o s K Kp
end
end Go.Abs
