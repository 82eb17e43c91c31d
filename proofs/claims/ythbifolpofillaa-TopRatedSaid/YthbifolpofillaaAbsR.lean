/-
  Regions that draw their order: a plan (operations that only read go first, and are run again behind each other one), its run, its soundness.
-/
import Derived.Test.YthbifolpofillaaAbsP
import Derived.OrdersIn
set_option linter.all false
namespace Go.Abs
open Go

inductive Plan where
  | done
  | take (i : Nat) (p : Plan)
  | spl (t : Nat) (p : Plan)
  | alt (i : Nat) (rv : List Nat) (p q : Plan)
  | nil

/-- Both goals. -/
structure Both (p q : Prop) : Prop where
  l : p
  r : q

section
variable (P : Program) (tt : TT) (an : Ann)

/-- Is an operation wanted? none: not known. -/
noncomputable def wantedA (all : Array Oper) (o : Oper) (s : St) : Option Bool := match o.guard with
  | none => some true
  | some (g, want) => match guardT all g with
    | some t => match s.get t with
      | .b c => match c, want with
        | true, true => some true
        | false, false => some true
        | _, _ => some false
      | .un => some false
      | _ => none
    | none => none

/-- operations that only read, run again -/
noncomputable def revals (all : Array Oper) (l : List Nat) (s : St) (K : Prop) : Prop :=
  List.rec (motive := fun _ => Prop) K (fun i _ ih => match getR all.toList i with
    | some o => match o.dst with
      | some d => match wantedA all o s with
        | some true => opR tt o s fun y => Need (AV.le y (s.get d)) ih
        | some false => Need (s.get d = .un) ih
        | none => False
      | none => False
    | none => False) l
theorem revals_nil (all : Array Oper) (s : St) (K : Prop) : revals tt all [] s K = K := rfl
theorem revals_cons (all : Array Oper) (i : Nat) (r : List Nat) (s : St) (K : Prop) : revals tt all (i :: r) s K = match getR all.toList i with
    | some o => match o.dst with
      | some d => match wantedA all o s with
        | some true => opR tt o s fun y => Need (AV.le y (s.get d)) (revals tt all r s K)
        | some false => Need (s.get d = .un) (revals tt all r s K)
        | none => False
      | none => False
    | none => False := rfl

noncomputable def planA (all : Array Oper) (K : St → Prop) (pl : Plan) : St → Prop :=
  Plan.rec (motive := fun _ => St → Prop) (fun s => K s)
    (fun i _ ih s => match getR all.toList i with
      | some o => match o.dst with
        | some d => match wantedA all o s with
          | some true => opR tt o s fun y => s.put (some d) y ih
          | some false => s.put (some d) .un ih
          | none => False
        | none => False
      | none => False)
    (fun t _ ih s => match s.get t with
      | .b _ => ih s
      | .un => ih s
      | .d (.bool c) => Br (c = true → s.putN t (.b true) ih) (c = false → s.putN t (.b false) ih)
      | _ => False)
    (fun i rv _ _ ihp ihq s => Both (match getR all.toList i with
      | some o => match wantedA all o s with
        | some true => opA P tt an o s (fun s' => revals tt all rv s' (ihp s')) (fun _ _ => False)
        | some false => s.put o.dst .un fun s' => revals tt all rv s' (ihp s')
        | none => False
      | none => False) (ihq s))
    (fun _ => True) pl

end

/-! The check of a plan. -/

def binds1 (e : Edge) : Bool := Region.binds .any e
def aft (ops : Array Oper) (j i : Nat) : Bool := match ops[i]? with | some o => o.after.any fun e => binds1 e && e.on == j | none => false
def dstOf (ops : Array Oper) (j : Nat) : Option Nat := (ops[j]?).bind (·.dst)
def looks (ops : Array Oper) (i : Nat) : List Nat := match ops[i]? with | some o => o.looksAt ops | none => []
def clash (ops : Array Oper) (j i : Nat) : Bool := match dstOf ops j with | some d => (looks ops i).contains d | none => false
def isRd (ops : Array Oper) (i : Nat) : Bool := match ops[i]? with | some o => isR o.op && o.dst.isSome | none => false

def chkP (ops : Array Oper) : Array Bool → List Nat → List Nat → Plan → Bool
  | V, _, acc, .done => acc.isEmpty && (Region.ready .any ops V).isEmpty
  | V, pend, acc, .take i p => acc.isEmpty && (Region.ready .any ops V).contains i && isRd ops i
      && (List.range ops.size).all (fun k => (V.getD k true && !pend.contains k) || !clash ops i k || (!V.getD k true && k != i && aft ops i k))
      && pend.all (fun k => dstOf ops k != dstOf ops i)
      && chkP ops (V.setIfInBounds i true) (i :: pend) [] p
  | V, pend, acc, .spl t p => acc.isEmpty && pend.all (fun k => !(looks ops k).contains t) && chkP ops V pend [] p
  | V, pend, acc, .alt i rv p q => (Region.ready .any ops V).contains i && pend.all (fun k => rv.contains k || aft ops k i) && chkP ops (V.setIfInBounds i true) (pend.filter fun k => !aft ops k i) [] p && chkP ops V pend (i :: acc) q
  | V, _, acc, .nil => !acc.isEmpty && (Region.ready .any ops V).all (fun k => acc.contains k)

def chkOps (ops : Array Oper) : Bool := (List.range ops.size).all fun i => match ops[i]? with
  | some o => o.after.all (fun e => !binds1 e || decide (e.on < i)) && (match o.op with | .select .. => false | .defer _ => false | _ => true)
  | none => true

def okPlan (ops : Array Oper) (pl : Plan) : Bool := chkOps ops && chkP ops (Array.replicate ops.size false) [] [] pl

/-- A region that draws stands next. -/
inductive DrawG (P : Program) (tt : TT) (an : Ann) (ops : Array Oper) (s : St) (K : St → Prop) : Prop where
  | mk (pl : Plan) (h : okPlan ops pl = true) (run : planA P tt an ops K pl s)

/-- The rule. -/
def drR (P : Program) (tt : TT) (an : Ann) (ops : Array Oper) (s : St) (K : St → Prop) : Prop := DrawG P tt an ops s K

section
variable {P : Program} {tt : TT} {an : Ann} {M M' : GM} {s s' : St} {a av : Act} {w w' : World}

theorem eval_agree {x : Operand} (h : ∀ t, x = .tmp t → s'.get t = s.get t) : s'.eval x = s.eval x := by
  cases x with
  | tmp t => exact h t rfl
  | _ => rfl

/-- What a reading operation yields. -/
def Det (T : (AV → Prop) → Prop) : Prop := ∀ K, T K → ∃ y, K y ∧ ∀ K' : AV → Prop, K' y → T K'

theorem Det.ret (y : AV) : Det fun K => K y := fun _ h => ⟨y, h, fun _ h' => h'⟩
theorem Det.no : Det fun _ => False := fun _ h => h.elim
theorem Det.need {p : Prop} {T : (AV → Prop) → Prop} (h : Det T) : Det fun K => Need p (T K) := fun K hk => let ⟨y, h1, h2⟩ := h K hk.r; ⟨y, h1, fun K' h' => ⟨hk.l, h2 K' h'⟩⟩
theorem Det.side {p : Prop} {T : (AV → Prop) → Prop} (h : Det T) : Det fun K => Side p (T K) := fun K hk => let ⟨y, h1, h2⟩ := h K hk.r; ⟨y, h1, fun K' h' => ⟨hk.l, h2 K' h'⟩⟩
theorem Det.ix {xs : List D} {n : Int} {T : D → (AV → Prop) → Prop} (h : ∀ x, Det (T x)) : Det fun K => Ix xs n fun x => T x K := by
  rintro K ⟨x, h0, hx, hk⟩
  obtain ⟨y, h1, h2⟩ := h x K hk
  exact ⟨y, h1, fun K' h' => ⟨x, h0, hx, h2 K' h'⟩⟩
theorem Det.ln {xs : List D} {T : Int → (AV → Prop) → Prop} (h : ∀ x, Det (T x)) : Det fun K => Ln xs fun x => T x K := by
  rintro K ⟨n, hn, hk⟩
  obtain ⟨y, h1, h2⟩ := h n K hk
  exact ⟨y, h1, fun K' h' => ⟨n, hn, h2 K' h'⟩⟩

theorem Det.lnN {m : Nat} {T : Int → (AV → Prop) → Prop} (h : ∀ x, Det (T x)) : Det fun K => LnN m fun x => T x K := by
  rintro K ⟨n, hn, hk⟩
  obtain ⟨y, h1, h2⟩ := h n K hk
  exact ⟨y, h1, fun K' h' => ⟨n, hn, h2 K' h'⟩⟩

theorem Det.ti {t : Nat} {T : TI → (AV → Prop) → Prop} (h : ∀ i, Det (T i)) : Det fun K => withTI tt t fun i => T i K := by
  unfold withTI; split
  · exact h _
  · exact .no

theorem Det.mkVal {i : TI} {l : List AV} : Det fun K => mkVal i l K := by
  unfold Abs.mkVal
  split
  · split
    · exact .ret _
    · simp only [force_iff]; exact .ret _
  · split
    · exact .ret _
    · exact .no

theorem Det.obR {k : Nat} {T : Ob → (AV → Prop) → Prop} (h : ∀ o, Det (T o)) : Det fun K => obR s k fun o => T o K := by
  unfold Abs.obR; split
  · exact h _
  · exact .no

theorem Det.cellsR {cs : List AV} {off n : Nat} {T : List AV → (AV → Prop) → Prop} (h : ∀ l, Det (T l)) : Det fun K => cellsR cs off n fun l => T l K := by
  unfold Abs.cellsR; split
  · exact h _
  · exact .no

theorem Det.loadR {i : TI} {x : AV} : Det fun K => loadR s i x K := by
  unfold Abs.loadR
  split
  · refine .obR fun o => ?_
    split
    · exact .side (.cellsR fun l => .mkVal)
    · exact .no
  · split
    · exact .mkVal
    · exact .no
  · refine .obR fun o => ?_
    split
    · exact .side (.ix fun x => .cellsR fun l => .mkVal)
    · split
      · split
        · exact .side (.need (.ret _))
        · exact .no
      · exact .no
    · exact .no
  · exact .no

theorem Det.partD {l : List D} {off n : Nat} {T : D → (AV → Prop) → Prop} (h : ∀ d, Det (T d)) : Det fun K => partD l off n fun d => T d K := by
  unfold Abs.partD; simp only [force_iff]; exact h _

theorem Det.fieldR {i : TI} {x : AV} {f : Nat} : Det fun K => fieldR i x f K := by
  unfold Abs.fieldR
  split
  · split
    · split
      · exact .ret _
      · exact .ret _
      · exact .partD fun d => .ret _
      · exact .no
    · exact .no
  · exact .no

theorem Det.idxR {i : TI} {x : AV} {n : Int} : Det fun K => idxR s i x n K := by
  unfold Abs.idxR
  split
  · refine .need ?_
    split
    · exact .ret _
    · exact .partD fun d => .ret _
    · exact .no
  · split
    · exact .side (.ix fun x => .ret _)
    · refine .obR fun o => ?_
      split
      · exact .side (.need (.ret _))
      · exact .side (.need (.ret _))
      · exact .no
    · exact .no
  · exact .no

theorem Det.lenR {i : TI} {x : AV} : Det fun K => lenR s i x K := by
  unfold Abs.lenR
  split
  · split
    · exact .ret _
    · exact .ln fun n => .ret _
    · refine .obR fun o => ?_
      split
      · exact .side (.ln fun n => .ret _)
      · exact .side (.lnN fun n => .ret _)
      · exact .no
    · exact .no
  · split
    · exact .ret _
    · exact .no
  · exact .ret _
  · split
    · refine .obR fun o => ?_
      split
      · exact .side (.lnN fun n => .ret _)
      · exact .no
    · exact .lnN fun n => .ret _
    · exact .ret _
    · exact .no
  · exact .no

theorem Det.eqB {c : Bool} {T : Bool → (AV → Prop) → Prop} (h : ∀ x, Det (T x)) : Det fun K => EqB c fun x => T x K := by
  rintro K ⟨n, hn, hk⟩
  obtain ⟨y, h1, h2⟩ := h n K hk
  exact ⟨y, h1, fun K' h' => ⟨n, hn, h2 K' h'⟩⟩

theorem Det.isBoolT {t : Nat} {T : (AV → Prop) → Prop} (h : Det T) : Det fun K => isBoolT tt t (T K) := by
  unfold Abs.isBoolT
  refine .ti fun i => ?_
  split
  · exact h
  · exact .no

theorem Det.binD {op : BinOp} {t : Nat} {x y : AV} : Det fun K => binD tt op t x y K := by
  unfold Abs.binD
  split
  · split
    · exact .need (.ret _)
    · split
      · exact .no
      · split
        · exact .ret _
        · split
          · exact .ret _
          · split
            · exact .need (.ret _)
            · exact .need (.ret _)
            · split
              · exact .ret _
              · exact .no
  · split
    · exact .isBoolT (.ret _)
    · exact .isBoolT (.ret _)
    · exact .no
  · split
    · exact .ret _
    · exact .ret _
    · exact .need (.ret _)
    · exact .no
  · refine .ti fun i => ?_
    split
    · exact .need (.eqB fun b => .ret _)
    · exact .need (.eqB fun b => .ret _)
    · exact .no
  · exact .no

theorem Det.nilR2 {op : BinOp} {t : Nat} {eq : Bool} : Det fun K => nilR2 tt op t eq K := by
  unfold Abs.nilR2
  refine .ti fun i => ?_
  split
  · split
    · exact .ret _
    · exact .ret _
    · exact .no
  · exact .no

theorem Det.binR {op : BinOp} {t : Nat} {x y : AV} : Det fun K => binR tt op t x y K := by
  unfold Abs.binR
  split
  · split
    · split
      · exact .binD
      · split
        · exact .ret _
        · exact .binD
    · exact .binD
  · split
    · exact .nilR2
    · exact .binD
  · split
    · exact .nilR2
    · exact .binD
  · exact .binD

theorem Det.opR {o : Oper} : Det fun K => opR tt o s K := by
  unfold Abs.opR
  split
  · unfold nilR; split
    · exact .ti fun i => .ret _
    · exact .ret _
  · unfold nilR; split
    · exact .ti fun i => .ret _
    · exact .ret _
  · split
    · exact .ret _
    · exact .ret _
    · exact .no
  · exact .ti fun i => .fieldR
  · split
    · exact .ti fun i => .idxR
    · exact .no
  · exact .ti fun i => .loadR
  · split <;> first | exact .ret _ | exact .no
  · exact .binR
  · split <;> first | exact .ret _ | exact .no
  · split <;> first | exact .ret _ | exact .no
  · unfold tupR; split
    · split <;> first | exact .ret _ | exact .no
    · split <;> first | exact .ret _ | exact .no
    · exact .no
  · split
    · exact .ret _
    · simp only [force_iff]; exact .ret _
  · refine .ti fun i => .ti fun i' => ?_
    unfold convR; split
    · exact .ret _
    · exact .ret _
    · split <;> first | exact .ret _ | exact .no
    · exact .no
  · refine .ti fun i => ?_
    split
    · exact .no
    · split <;> first | exact .ret _ | exact .no
  · split
    · split
      · exact .ti fun i => .lenR
      · exact .no
    · split
      · split <;> first | exact .ret _ | exact .no
      · exact .no
    · split
      · split <;> first | exact .ret _ | exact .no
      · exact .no
    · exact .no
  · exact .no

end
end Go.Abs
