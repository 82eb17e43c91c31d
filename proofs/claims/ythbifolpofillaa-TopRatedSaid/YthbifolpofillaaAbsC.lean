/-
  The abstract machine's run: operations (opR: those that only read; opE: the others), regions, code. Definitions alone.
-/
import Derived.Test.YthbifolpofillaaAbsU
set_option linter.all false
namespace Go.Abs
open Go

/-- What is told of a function besides its text. imm: boxes that are never written to. nob: variables whose nil is the beginning of an array of the call's own. own: calls that are handed arrays as objects. trunc: slice expressions that cut an array of the call's own. cut: regions ahead of which a family of states is named. -/
structure Ann where
  imm : List Nat
  nob : List Nat
  own : List Nat
  trunc : List Nat
  cut : List Nat
  /-- what is added to a slot's number to name an object -/
  off : Nat

noncomputable def memN (n : Nat) (l : List Nat) : Bool := List.rec (motive := fun _ => Bool) false (fun m _ ih => match Nat.beq n m with | true => true | false => ih) l

noncomputable def memO (o : Option Nat) (l : List Nat) : Bool := match o with | some n => memN n l | none => false

/-- a datum of a type whose values may be compared -/
def fitK (i : TI) (x : D) : Bool := fitsD i.ek (cellsOf x) && (match x with | .agg _ => i.k.isAgg | _ => !i.k.isAgg) && !i.ek.isEmpty

section
variable (P : Program) (tt : TT) (an : Ann)

noncomputable def withTI (t : Nat) (K : TI → Prop) : Prop := match look tt t with | some i => K i | none => False

/-- a part of flat cells, as data behind a pointer that stays -/
noncomputable def partD (l : List D) (off n : Nat) (K : D → Prop) : Prop := force (takeR (dropR l off) n) fun l' => K (.ref (.agg l'))

noncomputable def obR (s : St) (k : Nat) (K : Ob → Prop) : Prop := match look s.ob k with | some o => K o | none => False

/-- cells off, off+1 .. of an owned block -/
noncomputable def cellsR (cs : List AV) (off n : Nat) (K : List AV → Prop) : Prop := match Nat.ble (Nat.add off n) (lenR' cs) with | true => K (takeR (dropR cs off) n) | false => False

noncomputable def loadR (s : St) (i : TI) (x : AV) (K : AV → Prop) : Prop := match x with
  | .ptr k b o => obR s k fun ob => match ob with
    | .cells b' cs => Side (b = b') (cellsR cs o i.size fun l => mkVal i l K)
    | _ => False
  | .d (.ref d) => match Nat.beq (lenR' (cellsOf d)) i.size with | true => mkVal i (mapR .d (cellsOf d)) K | false => False
  | .el k h sz j o => obR s k fun ob => match ob with
    | .arr h' _ sz' _ xs => Side (h = h' ∧ sz = sz') (Ix xs j fun x => cellsR (mapR .d (cellsOf x)) o i.size fun l => mkVal i l K)
    | .rows h' _ _ _ hs _ xs => match i.k with
      | .slice _ => match Nat.beq i.size 1, o with
        | true, 0 => Side (h = h' ∧ sz = 1) (Need (j < xs.length) (K (.rw k j (hs j))))
        | _, _ => False
      | _ => False
    | _ => False
  | _ => False

noncomputable def lenR (s : St) (i : TI) (x : AV) (K : AV → Prop) : Prop := match i.k with
  | .slice _ => match x.toD with
    | .nils _ => K (.i .i64 0)
    | .d (.list _ xs) => Ln xs fun n => K (.d (.int .i64 n))
    | .sl k h => obR s k fun ob => match ob with
      | .arr h' _ _ _ xs => Side (h = h') (Ln xs fun n => K (.d (.int .i64 n)))
      | .rows h' _ _ _ _ _ xs => Side (h = h') (LnN xs.length fun n => K (.d (.int .i64 n)))
      | _ => False
    | _ => False
  | .string => match x with
    | .d (.str t) => K (.d (.int .i64 t.length))
    | _ => False
  | .array n _ => K (.i .i64 n)
  | .map _ _ => match x with
    | .mp k b => obR s k fun ob => match ob with
      | .map b' es => Side (b = b') (LnN es.length fun n => K (.d (.int .i64 n)))
      | _ => False
    | .d (.mp es) => LnN es.length fun n => K (.d (.int .i64 n))
    | .d .nilmp => K (.i .i64 0)
    | _ => False
  | _ => False

noncomputable def isBoolT (t : Nat) (p : Prop) : Prop := withTI tt t fun i => match i.k with | .bool => p | _ => False

/-- both numbers are literals -/
def litR (op : BinOp) (k : IntKind) (a b : Int) : Option AV := match arithI op a b with
  | some c => some (.i k (k.wrap c))
  | none => match cmpI op a b with
    | some c => some (.b c)
    | none => none

/-- shifts; bits -/
def shI (op : BinOp) (k : IntKind) (a b : Int) : Option Int := match op with
  | .shl => some (k.wrap (a * 2 ^ (min b.toNat k.bits)))
  | .shr => some (a.fdiv (2 ^ (min b.toNat k.bits)))
  | _ => none
def bitI (op : BinOp) (k : IntKind) (a b : Int) : Option Int := match op with
  | .and => some (k.wrap (BitVec.ofInt k.bits a &&& BitVec.ofInt k.bits b).toNat)
  | .or => some (k.wrap (BitVec.ofInt k.bits a ||| BitVec.ofInt k.bits b).toNat)
  | .xor => some (k.wrap (BitVec.ofInt k.bits a ^^^ BitVec.ofInt k.bits b).toNat)
  | .andNot => some (k.wrap (BitVec.ofInt k.bits a &&& ~~~BitVec.ofInt k.bits b).toNat)
  | _ => none

def binD (op : BinOp) (t : Nat) (x y : AV) (K : AV → Prop) : Prop := match x.toD, y.toD with
  | .d (.int k a), .d (.int k' b) => match shI op k a b with
   | some c => Need (0 ≤ b) (K (.d (.int k c)))
   | none => match decide (k = k') with
    | false => False
    | true => match arithI op a b with
      | some c => K (.d (.int k (k.wrap c)))
      | none => match bitI op k a b with
       | some c => K (.d (.int k c))
       | none => match op with
        | .quo => Need (b ≠ 0) (K (.d (.int k (k.wrap (a.tdiv b)))))
        | .rem => Need (b ≠ 0) (K (.d (.int k (a.tmod b))))
        | _ => match cmpI op a b with
          | some p => K (.d (.bool p))
          | none => False
  | .d (.bool a), .d (.bool b) => match op with
    | .eql => isBoolT tt t (K (.d (.bool (a == b))))
    | .neq => isBoolT tt t (K (.d (.bool (a != b))))
    | _ => False
  | .d (.str a), .d (.str b) => match op with
    | .eql => K (.d (.bool (decide (a = b))))
    | .neq => K (.d (.bool (!decide (a = b))))
    | .add => Need (a.length + b.length ≤ 9223372036854775807) (K (.d (.str (a ++ b))))
    | _ => False
  | .d (.agg l), .d (.agg m) => withTI tt t fun i => match op with
      | .eql => Need (fitK i (.agg l) = true ∧ fitK i (.agg m) = true) (EqB (eqDs l m) fun b => K (.d (.bool b)))
      | .neq => Need (fitK i (.agg l) = true ∧ fitK i (.agg m) = true) (EqB (eqDs l m) fun b => K (.d (.bool (!b))))
      | _ => False
  | _, _ => False

/-- a slice and nil -/
noncomputable def nilR2 (op : BinOp) (t : Nat) (eq : Bool) (K : AV → Prop) : Prop := withTI tt t fun i => match i.k with
  | .slice _ => match op with
    | .eql => K (.b eq)
    | .neq => K (.b (!eq))
    | _ => False
  | _ => False

noncomputable def binR (op : BinOp) (t : Nat) (x y : AV) (K : AV → Prop) : Prop := match x with
  | .i k a => match y with
    | .i k' b => (match decide (k = k') with
      | false => binD tt op t x y K
      | true => match litR op k a b with
        | some v => K v
        | none => binD tt op t x y K)
    | _ => binD tt op t x y K
  | .nils _ => match y with
    | .nils _ => nilR2 tt op t true K
    | _ => binD tt op t x y K
  | .nn _ _ => match y with
    | .nils _ => nilR2 tt op t false K
    | _ => binD tt op t x y K
  | _ => binD tt op t x y K

noncomputable def fieldR (i : TI) (x : AV) (f : Nat) (K : AV → Prop) : Prop := match i.k with
  | .struct l => match getR l f with
    | some (fo, fs) => match x with
      | .ptr k b o => K (.ptr k b (Nat.add o fo))
      | .el k h sz j o => K (.el k h sz j (Nat.add o fo))
      | .d (.ref d) => partD (cellsOf d) fo fs fun r => K (.d r)
      | _ => False
    | none => False
  | _ => False

noncomputable def idxR (s : St) (i : TI) (x : AV) (n : Int) (K : AV → Prop) : Prop := match i.k with
  | .array len _ => Need (0 ≤ n ∧ n < len) (match x with
    | .ptr k b o => K (.ptr k b (Nat.add o (Nat.mul n.toNat i.esz)))
    | .d (.ref d) => partD (cellsOf d) (Nat.mul n.toNat i.esz) i.esz fun r => K (.d r)
    | _ => False)
  | .slice _ => match x with
    | .d (.list sz xs) => Side (sz = i.esz) (Ix xs n fun x => K (.d (.ref x)))
    | .sl k h => obR s k fun ob => match ob with
      | .arr h' _ sz _ xs => Side (h = h' ∧ sz = i.esz) (Need (0 ≤ n ∧ n.toNat < xs.length) (K (.el k h sz n.toNat 0)))
      | .rows h' _ _ _ _ _ xs => Side (h = h' ∧ 1 = i.esz) (Need (0 ≤ n ∧ n.toNat < xs.length) (K (.el k h 1 n.toNat 0)))
      | _ => False
    | _ => False
  | _ => False

/-- one part, laid into its zero. nil leaves the zero as it is. -/
noncomputable def fill1 (place : Nat → Option (Nat × Nat)) (i : Nat) (v : AV) (cs : List AV) (K : List AV → Prop) : Prop := match place i with
    | some (off, n) => match v with
      | .nils _ => match Nat.beq n 1, getR cs off with
        | true, some (.nils _) => K cs
        | _, _ => False
      | v => match v.cells? with
        | some l => match Nat.beq (lenR' l) n with
          | true => match Nat.ble (Nat.add off n) (lenR' cs) with
            | true => force (setMany cs off l) fun cs' => K cs'
            | false => False
          | false => False
        | none => False
    | none => False

/-- The parts of a struct or array, laid into its zero. -/
noncomputable def fillA (K : List AV → Prop) (place : Nat → Option (Nat × Nat)) (l : List (Nat × AV)) : List AV → Prop :=
  List.rec (motive := fun _ => List AV → Prop) (fun cs => K cs) (fun p _ ih cs => match p with | (i, v) => fill1 place i v cs ih) l
theorem fillA_nil (K : List AV → Prop) (place : Nat → Option (Nat × Nat)) (cs : List AV) : fillA K place [] cs = K cs := rfl
theorem fillA_cons (K : List AV → Prop) (place : Nat → Option (Nat × Nat)) (i : Nat) (v : AV) (r : List (Nat × AV)) (cs : List AV) : fillA K place ((i, v) :: r) cs = fill1 place i v cs (fillA K place r) := rfl

noncomputable def placeR (i : TI) (n : Nat) : Option (Nat × Nat) := match i.k with
  | .struct l => getR l n
  | .array _ _ => some (Nat.mul n i.esz, i.esz)
  | _ => none

noncomputable def buildR (i : TI) (parts : List (Nat × AV)) (K : AV → Prop) : Prop := match i.k.isAgg with
  | true => fillA (fun cs => match allS cs with | some ds => K (.d (.agg ds)) | none => K (.agg cs)) (placeR i) parts (mapR zAV i.zero)
  | false => False

noncomputable def tupR (x : AV) (n : Nat) (K : AV → Prop) : Prop := match x with
  | .tup l => match getR l n with | some v => K v | none => False
  | .d (.tup l) => match getR l n with | some v => K (.d v) | none => False
  | _ => False

def convR (si di : TI) (x : AV) (K : AV → Prop) : Prop := match di.k, x with
  | .int k, .d (.int _ n) => K (.d (.int k (k.wrap n)))
  | .int k, .i _ n => K (.i k (k.wrap n))
  | .string, .d (.str s) => match si.k with | .string => K (.d (.str s)) | _ => False
  | _, _ => False

/-- a bare nil, by the type that is wanted -/
noncomputable def nilR (t : TypeId) (v : AV) (K : AV → Prop) : Prop := match v with
  | .nils 0 => withTI tt t fun i => K (.nils i.esz)
  | v => K v

/-- Operations that only read. -/
noncomputable def opR (o : Oper) (s : St) (K : AV → Prop) : Prop :=
  match o.op with
  | .move x => nilR tt o.type (s.eval x) K
  | .assign x => nilR tt o.type (s.eval x) K
  | .pick c a b => match s.eval c with
    | .b true => K (s.eval a)
    | .b false => K (s.eval b)
    | _ => False
  | .fieldAddr t x f => withTI tt t fun i => fieldR i (s.eval x) f K
  | .indexAddr t x ix => match (s.eval ix).toD with
    | .d (.int _ n) => withTI tt t fun i => idxR s i (s.eval x).toD n K
    | _ => False
  | .load t x => withTI tt t fun i => loadR s i (s.eval x) K
  | .nilCheck x => match s.eval x with
    | .ptr k b o => K (.ptr k b o)
    | .d (.ref d) => K (.d (.ref d))
    | .d (.fn (.func f) l c) => K (.d (.fn (.func f) l c))
    | .fn (.func f) l c => K (.fn (.func f) l c)
    | _ => False
  | .binOp op t x y _ => binR tt op t (s.eval x) (s.eval y) K
  | .unOp .not _ x => match s.eval x with
    | .b true => K (.b false)
    | .b false => K (.b true)
    | .d (.bool b) => K (.d (.bool (!b)))
    | _ => False
  | .unOp .neg _ x => match s.eval x with
    | .d (.int k n) => K (.d (.int k (k.wrap (-n))))
    | .i k n => K (.i k (k.wrap (-n)))
    | _ => False
  | .extract x n => tupR (s.eval x) n K
  | .makeFunc fn first caps => match allD (mapR s.eval first.toList), allD (mapR s.eval caps.toList) with
    | some a, some b => K (.d (.fn fn a b))
    | _, _ => force (mapR s.eval first.toList) fun a => force (mapR s.eval caps.toList) fun b => K (.fn fn a b)
  | .convert a b x => withTI tt a fun si => withTI tt b fun di => convR si di (s.eval x) K
  | .makeInterface t x => withTI tt t fun i => match i.k with
    | .iface => False
    | _ => match (s.eval x).toD with
      | .d d => K (.d (.ifc t d))
      | _ => False
  | .call c => match c.callee with
    | .builtin .len => match mapR s.eval c.args.toList, c.argTypes.toList with
      | [x], [t] => withTI tt t fun i => lenR s i x K
      | _, _ => False
    | .builtin .max => match mapR (fun x => (s.eval x).toD) c.args.toList with
      | [.d (.int k a), .d (.int k' b)] => match decide (k = k') with | true => K (.d (.int k (max a b))) | false => False
      | _ => False
    | .builtin .min => match mapR (fun x => (s.eval x).toD) c.args.toList with
      | [.d (.int k a), .d (.int k' b)] => match decide (k = k') with | true => K (.d (.int k (min a b))) | false => False
      | _ => False
    | _ => False
  | _ => False

/-- An array of the call's own is read as a list that stays. -/
noncomputable def view1 (s : St) (v : AV) (K : St → AV → Prop) : Prop := match v with
  | .sl k h => match look s.ob k with
    | some (.arr h' e sz _ xs) => Side (h = h') (s.setO k (.arr h' e sz true xs) fun s' => K s' (.d (.list sz xs)))
    | some (.rows h' e _ rsz _ none xs) => Side (h = h') (Eqv (xs.map (D.list rsz)) fun zs => s.setO k (.arr h' e 1 true zs) fun s' => K s' (.d (.list 1 zs)))
    | _ => False
  | v => K s v

noncomputable def viewsE (l : List AV) : St → (St → List AV → Prop) → Prop :=
  List.rec (motive := fun _ => St → (St → List AV → Prop) → Prop) (fun s K => K s []) (fun v _ ih s K => view1 s v fun s' v' => ih s' fun s'' r' => K s'' (v' :: r')) l
theorem viewsE_nil (s : St) (K : St → List AV → Prop) : viewsE [] s K = K s [] := rfl
theorem viewsE_cons (v : AV) (r : List AV) (s : St) (K : St → List AV → Prop) : viewsE (v :: r) s K = view1 s v fun s' v' => viewsE r s' fun s'' r' => K s'' (v' :: r') := rfl

/-- The same, in a struct's parts, too. -/
noncomputable def viewE (s : St) (v : AV) (K : St → AV → Prop) : Prop := match v with
  | .agg l => viewsE l s fun s' l' => match allD l' with | some ds => K s' (.d (.agg ds)) | none => K s' (.agg l')
  | v => view1 s v K

noncomputable def viewsA (l : List AV) : St → (St → List AV → Prop) → Prop :=
  List.rec (motive := fun _ => St → (St → List AV → Prop) → Prop) (fun s K => K s []) (fun v _ ih s K => viewE s v fun s' v' => ih s' fun s'' r' => K s'' (v' :: r')) l
theorem viewsA_nil (s : St) (K : St → List AV → Prop) : viewsA [] s K = K s [] := rfl
theorem viewsA_cons (v : AV) (r : List AV) (s : St) (K : St → List AV → Prop) : viewsA (v :: r) s K = viewE s v fun s' v' => viewsA r s' fun s'' r' => K s'' (v' :: r') := rfl

noncomputable def argsE (own : Bool) (vs : List AV) (s : St) (K : St → List AV → Prop) : Prop := match own with | true => K s vs | false => viewsA vs s K

/-- an argument by its type: nil, and literals, as data -/
noncomputable def arg1 (v : AV) (t : TypeId) (K : AV → Prop) : Prop := match v with
  | .nils _ => withTI tt t fun i => K (.d (.list i.esz []))
  | v => forceAV v.toD K

noncomputable def argsAt (vs : List AV) : List TypeId → (List AV → Prop) → Prop :=
  List.rec (motive := fun _ => List TypeId → (List AV → Prop) → Prop) (fun _ K => K [])
    (fun v _ ih ts K => match ts with | [] => False | t :: ts => arg1 tt v t fun v' => ih ts fun r' => K (v' :: r')) vs
theorem argsAt_nil (ts : List TypeId) (K : List AV → Prop) : argsAt tt [] ts K = K [] := rfl
theorem argsAt_cons (v : AV) (r : List AV) (t : TypeId) (ts : List TypeId) (K : List AV → Prop) : argsAt tt (v :: r) (t :: ts) K = arg1 tt v t fun v' => argsAt tt r ts fun r' => K (v' :: r') := rfl

/-- two values that differ in the names of objects alone, or in what is known of them -/
def AV.le (a b : AV) : Prop := ∀ M v, GamA M a v → GamA M b v

/-- new names for a call's objects, apart from the rest -/
structure RenOK (ren : Nat → Nat) (os rest : List (Nat × Ob)) : Prop where
  inj : ∀ k k' o o', look os k = some o → look os k' = some o' → ren k = ren k' → k = k'
  apart : ∀ k o, look os k = some o → look rest (ren k) = none

def renOs (ren : Nat → Nat) (os : List (Nat × Ob)) : List (Nat × Ob) := os.map fun p => (ren p.1, p.2)

/-- A call stands next. -/
inductive CallG (f : FuncId) (args : List AV) (ob : List (Nat × Ob)) (K : AV → List (Nat × Ob) → Prop) (Kp : D → List (Nat × Ob) → Prop) : Prop where
  | pure (r : AV) (h : ACalls P f args [] fun e os => e = .ret r ∧ os = []) (k : K r ob)
  | ex {β : Type} (r : β → AV) (R : β → Prop) (h : ACalls P f args [] fun e os => ∃ x, R x ∧ e = .ret (r x) ∧ os = []) (k : ∀ x, R x → K (r x) ob)
  | gen (args' : List AV) (os : List (Nat × Ob)) (Q : AE → List (Nat × Ob) → Prop) (ren : Nat → Nat) (rest : List (Nat × Ob))
      (ha : All2 AV.le args args')
      (hos : ∀ k o, look os k = some o → look ob (ren k) = some o) (hr : RenOK ren os rest)
      (hrest : ∀ k o, look rest k = some o → look ob k = some o)
      (h : ACalls P f args' os Q)
      (k : ∀ r os', Q (.ret r) os' → ∃ r', AV.le r r' ∧ K r' (renOs ren os' ++ rest))
      (kp : ∀ d os', Q (.pan d) os' → Kp d (renOs ren os' ++ rest))

noncomputable def callE (f : FuncId) (args : List AV) (s : St) (dst : Option Nat) (K : St → Prop) (Kp : D → St → Prop) : Prop := match s with
  | ⟨n, tm, ob⟩ => force args fun args => CallG P f args ob (fun r ob' => St.put ⟨n, tm, ob'⟩ dst r K) (fun d ob' => Kp d ⟨n, tm, ob'⟩)

/-- elements for an append -/
noncomputable def elemsE (s : St) (esz : Nat) (v : AV) (K : List D → Prop) : Prop := match v.toD with
  | .nils _ => K []
  | .d (.list sz ys) => Side (sz = esz) (K ys)
  | .sl k h => obR s k fun ob => match ob with
    | .arr h' _ sz _ ys => Side (h = h' ∧ sz = esz) (K ys)
    | _ => False
  | _ => False

/-- a new array of the call's own, named by the slot that it goes to -/
noncomputable def newArr (s : St) (k d : Nat) (e sz : Nat) (xs : List D) (K : St → Prop) : Prop :=
  ∀ h : Value, s.setO k (.arr h e sz false xs) fun s' => s'.putN d (.sl k h) K

noncomputable def appendE (i ei : TI) (e : Nat) (s : St) (kn d : Nat) (x : AV) (ys : List D) (K : St → Prop) : Prop := match x with
  | .nils _ => Need (ys.length * ei.bytes ≤ 140737488355328 ∧ ys.length ≤ 9223372036854775807) (Eqv ys fun zs => newArr s kn d e i.esz zs K)
  | .sl k h => match look s.ob k with
    | some (.arr h' e' sz fz xs) => Side (h = h' ∧ e = e' ∧ sz = i.esz)
        (Need ((xs.length + ys.length) * ei.bytes ≤ 140737488355328 ∧ xs.length + ys.length ≤ 9223372036854775807)
          (Eqv (xs ++ ys) fun zs => ∀ h2 : Value, s.setO k (.arr h2 e' sz fz zs) fun s' => s'.putN d (.sl k h2) K))
    | some (.rows h' e' re rsz hs none xs) => match ys with
      | [.nilsl] => Side (h = h' ∧ e = e' ∧ i.esz = 1)
        (Need ((xs.length + 1) * ei.bytes ≤ 140737488355328 ∧ xs.length + 1 ≤ 9223372036854775807)
          (REqv (xs ++ [[]]) fun zs => ∀ (h2 : Value) (hs' : Nat → Value), s.setO k (.rows h2 e' re rsz hs' none zs) fun s' => s'.putN d (.sl k h2) K))
      | _ => False
    | _ => False
  | .rw k j h => match look s.ob k with
    | some (.rows h' e' re rsz hs none xs) => match Nat.beq kn k with
      | false => Side (h = hs j ∧ e = re ∧ rsz = i.esz) (RIx xs j fun x =>
          (Need ((x.length + ys.length) * ei.bytes ≤ 140737488355328 ∧ x.length + ys.length ≤ 9223372036854775807)
            (Eqv (x ++ ys) fun zs => ∀ h2 : Value, s.setO k (.rows h' e' re rsz hs (some j) xs) fun s1 => s1.setO kn (.arr h2 re rsz false zs) fun s2 => s2.putN d (.sl kn h2) K)))
      | true => False
    | _ => False
  | .cl sz xs => Side (sz = i.esz) (Need ((xs.length + ys.length) * ei.bytes ≤ 140737488355328 ∧ xs.length + ys.length ≤ 9223372036854775807)
      (Eqv (xs ++ ys) fun zs => s.putN d (.d (.list sz zs)) K))
  | _ => False

/-- a part of a slice literal -/
noncomputable def part1 (nl : Bool) (ei : TI) (v : AV) (K : D → Prop) : Prop := match v.toD with
      | .d x => match (AV.d x).cells? with
        | some l => match Nat.beq (lenR' l) ei.size with
          | true => K x
          | false => False
        | none => False
      | .nils _ => match nl with
        | true => match ei.zero, Nat.beq ei.size 1 with | [.list _ []], true => K .nilsl | _, _ => False
        | false => match ei.zero, Nat.beq ei.size 1 with | [.list sz []], true => K (.list sz []) | _, _ => False
      | _ => False

/-- the parts of a slice literal: all of them, in order -/
noncomputable def partsE (nl : Bool) (ei : TI) (n : Nat) (l : List (Nat × AV)) (K : List D → Prop) : Prop :=
  List.rec (motive := fun _ => Nat → (List D → Prop) → Prop) (fun _ K => K []) (fun p _ ih n K => match p with
    | (m, v) => match Nat.beq n m with
      | true => part1 nl ei v fun x => ih (Nat.succ n) fun l => K (x :: l)
      | false => False) l n K
theorem partsE_nil (nl : Bool) (ei : TI) (n : Nat) (K : List D → Prop) : partsE nl ei n [] K = K [] := rfl
theorem partsE_cons (nl : Bool) (ei : TI) (n m : Nat) (v : AV) (r : List (Nat × AV)) (K : List D → Prop) : partsE nl ei n ((m, v) :: r) K = match Nat.beq n m with
      | true => part1 nl ei v fun x => partsE nl ei (Nat.succ n) r fun l => K (x :: l)
      | false => False := rfl

def bndE (v : Option AV) (dflt : Int) (K : Int → Prop) : Prop := match v with
  | none => K dflt
  | some v => match v.toD with
    | .d (.int _ n) => K n
    | _ => False

noncomputable def storeE (s : St) (i : TI) (x v : AV) (K : St → Prop) : Prop := match x with
  | .ptr k b o => match look s.ob k with
    | some (.cells b' cs) => match v.cells? with
      | some l => match Nat.beq (lenR' l) i.size with
        | true => match Nat.ble (Nat.add o i.size) (lenR' cs) with
          | true => Side (b = b') (force (setMany cs o l) fun cs' => s.setO k (.cells b' cs') K)
          | false => False
        | false => False
      | none => False
    | _ => False
  | .el k h sz j o => match look s.ob k with
    | some (.arr h' e sz' false xs) => Side (h = h' ∧ sz = sz') (Ix xs j fun x => match v.cells?.bind allD with
        | some ds => match Nat.beq (lenR' ds) i.size with
          | true => match Nat.ble (Nat.add o i.size) (lenR' (cellsOf x)) with
            | true => match x with
              | .agg cs => force (setMany cs o ds) fun cs' => Eqv (xs.set j (.agg cs')) fun zs => s.setO k (.arr h' e sz' false zs) K
              | _ => match ds with
                | [d] => Eqv (xs.set j d) fun zs => s.setO k (.arr h' e sz' false zs) K
                | _ => False
            | false => False
          | false => False
        | none => False)
    | some (.rows h' e re rsz hs (some q) xs) => match v with
      | .sl kn h2 => match look s.ob kn with
        | some (.arr h3 re' rsz' false zs) => match Nat.beq kn k, Nat.beq i.size 1, o with
          | false, true, 0 => Side (h = h' ∧ sz = 1 ∧ j = q ∧ h2 = h3 ∧ re = re' ∧ rsz = rsz') (Need (j < xs.length) (REqv (xs.set j zs) fun ys => ∀ hs' : Nat → Value,
              s.setO kn (.arr (.slice none 0 0) re rsz false []) fun s1 => s1.setO k (.rows h' e re rsz hs' none ys) K))
          | _, _, _ => False
        | _ => False
      | _ => False
    | _ => False
  | _ => False

/-- the elements of an array behind a pointer that stays -/
inductive ArrS (cs : List D) (n sz : Nat) (K : List D → Prop) : Prop
  | mk (xs : List D) (h1 : xs.length = n) (h2 : xs.flatMap cellsOf = cs) (h3 : ∀ x ∈ xs, (cellsOf x).length = sz) (k : K xs) : ArrS cs n sz K

/-- the elements of an array that lies in cells of the call's own, and is not written to any more -/
inductive ArrC (cs : List AV) (n sz : Nat) (K : List D → Prop) : Prop
  | mk (xs : List D) (h1 : xs.length = n) (h2 : cs.map AV.toD = (xs.flatMap cellsOf).map AV.d) (h3 : ∀ x ∈ xs, (cellsOf x).length = sz) (k : K xs) : ArrC cs n sz K

/-- a slice expression without a third bound -/
noncomputable def sliceE (s : St) (i : TI) (dst : Option Nat) (x : AV) (lo hi : Option AV) (K : St → Prop) : Prop := match i.k with
  | .slice _ => match memO dst an.trunc, x with
    | true, .sl k h => match dst, lo, look s.ob k with
      | some d, none, some (.arr h' e sz false xs) => Side (h = h') (bndE hi xs.length fun n => Need (0 ≤ n ∧ n ≤ xs.length)
          (Eqv (xs.take n.toNat) fun zs => ∀ h2 : Value, s.setO k (.arr h2 e sz false zs) fun s' => s'.putN d (.sl k h2) K))
      | _, _, _ => False
    | _, v => view1 s v.toD fun s' v' => match v' with
      | .d (.list sz xs) => bndE hi xs.length fun n => bndE lo 0 fun m => Need (0 ≤ m ∧ m ≤ n ∧ n ≤ xs.length ∧ sz = i.esz)
          (Eqv ((xs.take n.toNat).drop m.toNat) fun zs => s'.put dst (.d (.list sz zs)) K)
      | .nils sz => bndE hi 0 fun n => bndE lo 0 fun m => Need (m = 0 ∧ n = 0) (s'.put dst (.nils sz) K)
      | _ => False
  | .string => match x with
    | .d (.str b) => bndE hi b.length fun n => bndE lo 0 fun m => Need (0 ≤ m ∧ m ≤ n ∧ n ≤ b.length) (s.put dst (.d (.str ((b.take n.toNat).drop m.toNat))) K)
    | _ => False
  | .array n _ => match lo, hi with
    | none, none => match x.toD with
      | .d (.ref d) => ArrS (cellsOf d) n i.esz fun xs => s.put dst (.d (.list i.esz xs)) K
      | .ptr k b o => match look s.ob k with
        | some (.cells b' cs) => Side (b = b') (cellsR cs o (Nat.mul n i.esz) fun l => ArrC l n i.esz fun xs => s.setO k (.arr (.slice none 0 0) 0 1 false []) fun s' => s'.put dst (.d (.list i.esz xs)) K)
        | _ => False
      | _ => False
    | _, _ => False
  | _ => False

/-- a slice expression whose third bound is its second one -/
noncomputable def slice3E (s : St) (i : TI) (dst : Option Nat) (x : AV) (lo hi mx : Option AV) (K : St → Prop) : Prop := match i.k, hi with
  | .slice _, some _ => view1 s x.toD fun s' v' => match v' with
      | .d (.list sz xs) => bndE hi 0 fun n => bndE mx 0 fun n' => bndE lo 0 fun m => Need (0 ≤ m ∧ m ≤ n ∧ n ≤ xs.length ∧ n' = n ∧ sz = i.esz)
          (Eqv ((xs.take n.toNat).drop m.toNat) fun zs => s'.put dst (.cl sz zs) K)
      | .nils sz => bndE hi 0 fun n => bndE mx 0 fun n' => bndE lo 0 fun m => Need (m = 0 ∧ n = 0 ∧ n' = 0) (s'.put dst (.nils sz) K)
      | _ => False
  | _, _ => False

/-- a map's entries -/
noncomputable def mapE (s : St) (v : AV) (K : List (D × D) → Prop) : Prop := match v with
  | .mp k b => match look s.ob k with
    | some (.map b' es) => Side (b = b') (K es)
    | _ => False
  | .d (.mp es) => K es
  | .d .nilmp => K []
  | _ => False

/-- a key: its datum -/
noncomputable def keyE (ki : TI) (v : AV) (K : D → Prop) : Prop := match v.toD with
  | .d x => Need (fitK ki x = true) (K x)
  | _ => False

/-- a type's zero as one datum -/
def zeroD (ei : TI) : Option D := match ei.k.isAgg with
  | false => match ei.zero with | [z] => some z | _ => none
  | true => some (.agg ei.zero)

def lkAV (ok : Bool) (v : D) (b : Bool) : AV := match ok with | true => .d (.tup [v, .bool b]) | false => .d v

noncomputable def lookupE (s : St) (ki ei : TI) (dst : Option Nat) (m x : AV) (ok : Bool) (K : St → Prop) : Prop :=
  mapE s m fun es => keyE ki x fun kd => Need (∀ e ∈ es, fitK ki e.1 = true)
    (match zeroD ei with
      | some z => LkG (findD (cellsOf kd) es) z fun v b => s.put dst (lkAV ok v b) K
      | none => False)

noncomputable def mapUpdateE (s : St) (ki : TI) (et : TypeId) (m x v : AV) (K : St → Prop) : Prop :=
  viewE s v fun s v' => arg1 tt v' et fun v'' => match v'' with
    | .d vd => match m with
      | .mp k b => match look s.ob k with
        | some (.map b' es) => Side (b = b') (keyE ki x fun kd => Need (∀ e ∈ es, fitK ki e.1 = true) (MEqv (putD (cellsOf kd) kd vd es) fun es' => s.setO k (.map b es') K))
        | _ => False
      | _ => False
    | _ => False

/-- The other operations. -/
noncomputable def opE (o : Oper) (s : St) (K : St → Prop) (Kp : D → St → Prop) : Prop :=
  match o.op with
  | .alloc t => match o.dst with
    | some d => withTI tt t fun i => match memN d an.imm with
      | true => s.put o.dst (.d (.ref (.agg i.zero))) K
      | false => match memN d an.own with
       | true => match i.k with
         | .slice e => match i.zero with
           | [.list sz []] => ∀ b, s.setO (Nat.add an.off d) (.cells b [.sl (Nat.add an.off (Nat.add d 500)) (.slice none 0 0)]) fun s1 => s1.setO (Nat.add an.off (Nat.add d 500)) (.arr (.slice none 0 0) e sz false []) fun s2 => s2.putN d (.ptr (Nat.add an.off d) b 0) K
           | _ => False
         | _ => False
       | false => force (mapR zAV i.zero) fun cs => ∀ b, s.setO (Nat.add an.off d) (.cells b cs) fun s' => s'.putN d (.ptr (Nat.add an.off d) b 0) K
    | none => False
  | .box t x => match o.dst with
    | some d => withTI tt t fun i => nilR tt t (s.eval x) fun v => match memN d an.imm with
      | true => viewE s v fun s v => match v.cells?.bind allD with
        | some ds => match Nat.beq (lenR' ds) i.size with | true => force ds fun ds => s.put o.dst (.d (.ref (.agg ds))) K | false => False
        | none => False
      | false => match v.cells? with
        | some l => match Nat.beq (lenR' l) i.size with
          | true => force l fun cs => ∀ b, s.setO (Nat.add an.off d) (.cells b cs) fun s' => s'.putN d (.ptr (Nat.add an.off d) b 0) K
          | false => False
        | none => False
    | none => False
  | .store t x y => match o.dst with
    | none => withTI tt t fun i => nilR tt t (s.eval y) fun v => storeE s i (s.eval x) v K
    | some _ => False
  | .build t parts => withTI tt t fun i => viewsA (mapR (fun p => s.eval p.2) parts.toList) s fun s' vs => buildR i (zipR (mapR (fun p => p.1) parts.toList) vs) fun r => s'.put o.dst r K
  | .buildSlice t n parts => match o.dst with
    | some d => withTI tt t fun i => match i.k with
      | .slice e => withTI tt e fun ei => viewsA (mapR (fun p => s.eval p.2) parts.toList) s fun s' vs => match (Nat.beq (lenR' parts.toList) n && Nat.ble (Nat.mul n ei.size) 16777216) with
        | true => partsE (memN d an.nob) ei 0 (zipR (mapR (fun p => p.1) parts.toList) vs) fun xs => newArr s' (Nat.add an.off d) d e i.esz xs K
        | false => False
      | _ => False
    | none => False
  | .makeSlice t l c => match o.dst with
    | some d => match (s.eval l).toD, (s.eval c).toD with
      | .d (.int _ n), .d (.int _ m) => withTI tt t fun i => match i.k with
        | .slice e => withTI tt e fun ei => Need (0 ≤ n ∧ n ≤ m ∧ m * ei.bytes ≤ 140737488355328 ∧ m ≤ 9223372036854775807)
            (match ei.k.isAgg, ei.zero with
             | false, [z] => Eqv (List.replicate n.toNat z) fun zs => newArr s (Nat.add an.off d) d e i.esz zs K
             | true, zs => Eqv (List.replicate n.toNat (.agg zs)) fun zs => newArr s (Nat.add an.off d) d e i.esz zs K
             | _, _ => False)
        | _ => False
      | _, _ => False
    | none => False
  | .slice t x lo hi none => withTI tt t fun i => sliceE an s i o.dst (s.eval x) (lo.map s.eval) (hi.map s.eval) K
  | .slice t x lo hi (some mx) => withTI tt t fun i => slice3E s i o.dst (s.eval x) (lo.map s.eval) (hi.map s.eval) (some (s.eval mx)) K
  | .makeMap t none => match o.dst with
    | some d => ∀ b, s.setO (Nat.add an.off d) (.map b []) fun s' => s'.putN d (.mp (Nat.add an.off d) b) K
    | none => False
  | .lookup t m x ok => withTI tt t fun i => match i.k with
    | .map kt et => withTI tt kt fun ki => withTI tt et fun ei => lookupE s ki ei o.dst (s.eval m) (s.eval x) ok K
    | _ => False
  | .mapUpdate t m x v => match o.dst with
    | none => withTI tt t fun i => match i.k with
      | .map kt et => withTI tt kt fun ki => mapUpdateE tt s ki et (s.eval m) (s.eval x) (s.eval v) K
      | _ => False
    | some _ => False
  | .call c => match c.callee with
    | .builtin .append => match o.dst, mapR s.eval c.args.toList, c.argTypes.toList with
      | some d, [x, y], [t, t'] => match Nat.beq t t' with
        | true => withTI tt t fun i => match i.k with
          | .slice e => withTI tt e fun ei => elemsE s i.esz y fun ys => appendE i ei e s (Nat.add an.off d) d x ys K
          | _ => False
        | false => False
      | _, _, _ => False
    | .value x => argsE (memO o.dst an.own) (mapR s.eval c.args.toList) s fun s' vs => argsAt tt vs c.argTypes.toList fun vs' => match s.eval x with
        | .d (.fn (.func f) first caps) => callE P f (appR (mapR .d first) (appR vs' (mapR .d caps))) s' o.dst K Kp
        | .fn (.func f) first caps => callE P f (appR first (appR vs' caps)) s' o.dst K Kp
        | _ => False
    | _ => False
  | .panic x => match s.eval x with
    | .d (.ifc t d) => Kp (.ifc t d) s
    | _ => False
  | _ => False

def isR : Op → Bool
  | .move _ | .assign _ | .pick .. | .fieldAddr .. | .indexAddr .. | .load .. | .nilCheck _ | .binOp .. | .unOp .. | .extract .. | .makeFunc .. | .convert .. | .makeInterface .. => true
  | .call c => match c.callee with
    | .builtin .len | .builtin .max | .builtin .min => true
    | _ => false
  | _ => false

noncomputable def opA (o : Oper) (s : St) (K : St → Prop) (Kp : D → St → Prop) : Prop := match isR o.op with
  | true => opR tt o s fun v => s.put o.dst v K
  | false => opE P tt an o s K Kp

end
end Go.Abs
