/-
  How the walks of typed functions begin.
-/
import Derived.Test.YthbifolpofillaaAbsS
import Derived.Test.YthbifolpofillaaPre
import Derived.KernelRfl
set_option linter.all false
namespace Go.Abs
open Go

abbrev I (n : Int) : D := .int .i64 n

section
variable {P : Program} {tt : TT} {DR : Ann → Array Oper → St → (St → Prop) → Prop}

theorem ACalls.forget {f : FuncId} {args : List AV} {os : List (Nat × Ob)} {Q : AE → Prop} (h : ACalls P f args os fun e _ => Q e) : ACalls P f args os fun e os' => Q e ∧ os' = [] := by
  refine ⟨h.ok, fun M w vs h1 h2 h3 => (h.run M w vs h1 h2 h3).mono ?_⟩
  rintro e w' ⟨os', M', _, b, c, g⟩
  refine ⟨[], M', obs_nil _ _, b, ⟨c.fr, fun _ ⟨_, _, h, _⟩ => by simp [look_nil] at h⟩, ?_⟩
  rcases g with ⟨r, v, rfl, hq, hg⟩ | ⟨x, v, rfl, hq, hg⟩
  · exact .inl ⟨r, v, rfl, ⟨hq, rfl⟩, hg⟩
  · exact .inr ⟨x, v, rfl, ⟨hq, rfl⟩, hg⟩

/-- A function's contract, its objects forgotten. -/
theorem acalls_f (htt : ttOK P tt = true) (hdr : ∀ an, DROk P (DR an)) (an : Ann) {f : FuncId} {fn : Func} {c : Code} {fresh : Bool} {args : List AV} {r : AV}
    (hf : P.funcs[f]? = some fn) (hb : fn.body = some c) (hok : CallOk P f) (hn : Nat.ble args.length fn.ntmps = true) (h : bodyA P tt an (ext1 P tt an DR) fn c fresh args [] fun e _ => e = .ret r) : ACalls P f args [] fun e os => e = .ret r ∧ os = [] :=
  ACalls.forget (acalls_of htt hdr an hf hb hok hn h)
end
end Go.Abs

namespace Go.Abs
open Go
section
variable {P : Program} {tt : TT} {DR : Ann → Array Oper → St → (St → Prop) → Prop}

theorem look_one {o o' : Ob} {k : Nat} (h : look [(0, o)] k = some o') : k = 0 ∧ o' = o := by
  rw [look_cons] at h
  cases hb : Nat.beq 0 k with
  | true => rw [hb] at h; cases h; exact ⟨(Nat.eq_of_beq_eq_true hb).symm, rfl⟩
  | false => rw [hb] at h; cases h

/-- A call hands back a new array. -/
theorem ACalls.fresh {f : FuncId} {args : List AV} {os : List (Nat × Ob)} {e sz : Nat} {xs : List D} (h : ACalls P f args os fun ae os' => ∃ k hd, ae = .ret (.sl k hd) ∧ look os' k = some (.arr hd e sz false xs)) :
    ACalls P f args os fun ae os' => ∃ hd, ae = .ret (.sl 0 hd) ∧ os' = [(0, .arr hd e sz false xs)] := by
  refine ⟨h.ok, fun M w vs h1 h2 h3 => (h.run M w vs h1 h2 h3).mono ?_⟩
  rintro ae w' ⟨os', M', ho, b, c, g⟩
  rcases g with ⟨r, v, rfl, ⟨k, hd, e1, e2⟩, hg⟩ | ⟨x, v, rfl, ⟨k, hd, e1, _⟩, _⟩
  · cases e1
    refine ⟨[(0, .arr hd e sz false xs)], M', ⟨fun k' o hk => ?_, fun k1 k2 o1 o2 bb q1 q2 _ _ => ?_⟩, b, ⟨c.fr, fun bb ⟨k', o, q1, q2⟩ => ?_⟩, .inl ⟨.sl 0 hd, v, rfl, ⟨hd, rfl, rfl⟩, AV.le_key k 0 hd _ _ hg⟩⟩
    · obtain ⟨_, rfl⟩ := look_one hk; exact ho.ok k _ e2
    · rw [(look_one q1).1, (look_one q2).1]
    · obtain ⟨_, rfl⟩ := look_one q1; exact c.ow bb ⟨k, _, e2, q2⟩
  · cases e1

theorem acalls_fr (htt : ttOK P tt = true) (hdr : ∀ an, DROk P (DR an)) (an : Ann) {f : FuncId} {fn : Func} {c : Code} {args : List AV} {e sz : Nat} {xs : List D}
    (hf : P.funcs[f]? = some fn) (hb : fn.body = some c) (hok : CallOk P f) (hn : Nat.ble args.length fn.ntmps = true)
    (h : bodyA P tt an (ext1 P tt an DR) fn c true args [] fun ae os' => ∃ k hd, ae = .ret (.sl k hd) ∧ look os' k = some (.arr hd e sz false xs)) : ACalls P f args [] fun ae os' => ∃ hd, ae = .ret (.sl 0 hd) ∧ os' = [(0, .arr hd e sz false xs)] :=
  ACalls.fresh (acalls_of htt hdr an hf hb hok hn h)

theorem all2_le_refl (l : List AV) : All2 AV.le l l := ⟨rfl, fun i x y hx hy => by rw [hx] at hy; cases hy; exact AV.le_refl _⟩

theorem CallG.fresh {f : FuncId} {args : List AV} {ob : List (Nat × Ob)} {K : AV → List (Nat × Ob) → Prop} {Kp : D → List (Nat × Ob) → Prop} (k : Nat) {e sz : Nat} {xs : List D}
    (h : ACalls P f args [] fun ae os' => ∃ hd, ae = .ret (.sl 0 hd) ∧ os' = [(0, .arr hd e sz false xs)]) (kk : ∀ hd : Value, K (.sl k hd) ((k, .arr hd e sz false xs) :: ob)) : CallG P f args ob K Kp :=
  .gen args [] _ (fun _ => k) ob (all2_le_refl args) (fun _ _ h => by simp [look_nil] at h) ⟨fun _ _ _ _ h => by simp [look_nil] at h, fun _ _ h => by simp [look_nil] at h⟩ (fun _ _ h => h) h
    (by rintro r os' ⟨hd, e1, rfl⟩; cases e1; exact ⟨.sl k hd, AV.le_key 0 k hd, kk hd⟩) (by rintro d os' ⟨hd, e1, _⟩; cases e1)
end

section
variable {P : Program} {tt : TT} {DR : Ann → Array Oper → St → (St → Prop) → Prop}

theorem AV.le_bool {e b : Bool} (h : e = b) : AV.le (.d (.bool e)) (.b b) := by
  subst h
  intro M v hv
  cases hv with | d _ _ hv => ?_
  cases hv with | bool => ?_
  exact .b _

/-- A list is nil, or it is not. -/
theorem ACalls.nils_or {f : FuncId} {sz : Nat} {xs : List D} {Q : AE → List (Nat × Ob) → Prop} (h0 : xs = [] → ACalls P f [.nils sz] [] Q) (h1 : ACalls P f [.nn sz xs] [] Q) : ACalls P f [.d (.list sz xs)] [] Q := by
  refine ⟨h1.ok, fun M w vs hr ha ho => ?_⟩
  obtain ⟨v, vs', rfl, hv, ht⟩ := ha.inv
  have := ht.inv_nil
  subst this
  cases hv with | d _ _ hv => ?_
  have hv' := hv
  generalize hl : D.list sz xs = dd at hv
  cases hv with
  | nils => cases hl; exact (h0 rfl).run M w _ hr (.cons (.nils _) .nil) ho
  | list => cases hl; exact h1.run M w _ hr (.cons (.nn _ _ _ _ _ hv') .nil) ho
  | listz => cases hl; exact h1.run M w _ hr (.cons (.nn _ _ _ _ _ hv') .nil) ho
  | _ => cases hl

/-- A call that works on objects of its caller's: what is left of them. -/
theorem ACalls.keep {f : FuncId} {args : List AV} {os : List (Nat × Ob)} {β : Type} {R : β → Prop} {r : β → AV} {L : β → List (Nat × Ob)}
    (h : ACalls P f args os fun ae os' => ∃ y, R y ∧ ae = .ret (r y) ∧ ∀ p ∈ L y, look os' p.1 = some p.2) : ACalls P f args os fun ae os' => ∃ y, R y ∧ ae = .ret (r y) ∧ os' = L y := by
  refine ⟨h.ok, fun M w vs h1 h2 h3 => (h.run M w vs h1 h2 h3).mono ?_⟩
  rintro ae w' ⟨os', M', ho, b, c, g⟩
  rcases g with ⟨q, v, rfl, ⟨y, hy, e1, e2⟩, hg⟩ | ⟨x, v, rfl, ⟨y, _, e1, _⟩, _⟩
  · cases e1
    have hl : ∀ k o, look (L y) k = some o → look os' k = some o := fun k o hk => e2 (k, o) (look_mem hk)
    exact ⟨L y, M', ⟨fun k o hk => ho.ok k o (hl k o hk), fun k1 k2 o1 o2 bb q1 q2 q3 q4 => ho.dj k1 k2 o1 o2 bb (hl _ _ q1) (hl _ _ q2) q3 q4⟩, b,
      ⟨c.fr, fun bb ⟨k, o, q1, q2⟩ => c.ow bb ⟨k, o, hl _ _ q1, q2⟩⟩, .inl ⟨r y, v, rfl, ⟨y, hy, rfl, rfl⟩, hg⟩⟩
  · cases e1

/-- A call that may end in several ways, with objects of its caller's and new ones. -/
theorem ACalls.pred {f : FuncId} {args : List AV} {os : List (Nat × Ob)} {Q : AE → List (Nat × Ob) → Prop}
    (h : ACalls P f args os fun ae os' => ∃ L, Q ae L ∧ ∀ p ∈ L, look os' p.1 = some p.2) : ACalls P f args os Q := by
  refine ⟨h.ok, fun M w vs h1 h2 h3 => (h.run M w vs h1 h2 h3).mono ?_⟩
  rintro ae w' ⟨os', M', ho, b, c, g⟩
  have key : ∀ L : List (Nat × Ob), (∀ p ∈ L, look os' p.1 = some p.2) → Obs M' w' L ∧ Stp os M w L M' w' := by
    intro L e2
    have hl : ∀ k o, look L k = some o → look os' k = some o := fun k o hk => e2 (k, o) (look_mem hk)
    exact ⟨⟨fun k o hk => ho.ok k o (hl k o hk), fun k1 k2 o1 o2 bb q1 q2 q3 q4 => ho.dj k1 k2 o1 o2 bb (hl _ _ q1) (hl _ _ q2) q3 q4⟩,
      ⟨c.fr, fun bb ⟨k, o, q1, q2⟩ => c.ow bb ⟨k, o, hl _ _ q1, q2⟩⟩⟩
  rcases g with ⟨q, v, rfl, ⟨L, hq, e2⟩, hg⟩ | ⟨x, v, rfl, ⟨L, hq, e2⟩, hg⟩
  · exact ⟨L, M', (key L e2).1, b, (key L e2).2, .inl ⟨q, v, rfl, hq, hg⟩⟩
  · exact ⟨L, M', (key L e2).1, b, (key L e2).2, .inr ⟨x, v, rfl, hq, hg⟩⟩

theorem acalls_pred (htt : ttOK P tt = true) (hdr : ∀ an, DROk P (DR an)) (an : Ann) {f : FuncId} {fn : Func} {c : Code} {args : List AV} {os : List (Nat × Ob)} {Q : AE → List (Nat × Ob) → Prop}
    (hf : P.funcs[f]? = some fn) (hb : fn.body = some c) (hok : CallOk P f) (hn : Nat.ble args.length fn.ntmps = true)
    (h : bodyA P tt an (ext1 P tt an DR) fn c false args os fun ae os' => ∃ L, Q ae L ∧ ∀ p ∈ L, look os' p.1 = some p.2) : ACalls P f args os Q :=
  ACalls.pred (acalls_of htt hdr an hf hb hok hn h)

theorem map_cells {α : Type} {f : α → D} {sz : Nat} (l : List α) (h : ∀ a, (cellsOf (f a)).length = sz) : ∀ x ∈ l.map f, (cellsOf x).length = sz := by
  intro x hx
  obtain ⟨a, _, rfl⟩ := List.mem_map.1 hx
  exact h a

theorem acalls_own (htt : ttOK P tt = true) (hdr : ∀ an, DROk P (DR an)) (an : Ann) {f : FuncId} {fn : Func} {c : Code} {args : List AV} {os : List (Nat × Ob)} {β : Type} {R : β → Prop} {r : β → AV} {L : β → List (Nat × Ob)}
    (hf : P.funcs[f]? = some fn) (hb : fn.body = some c) (hok : CallOk P f) (hn : Nat.ble args.length fn.ntmps = true)
    (h : bodyA P tt an (ext1 P tt an DR) fn c false args os fun ae os' => ∃ y, R y ∧ ae = .ret (r y) ∧ ∀ p ∈ L y, look os' p.1 = some p.2) :
    ACalls P f args os fun ae os' => ∃ y, R y ∧ ae = .ret (r y) ∧ os' = L y :=
  ACalls.keep (acalls_of htt hdr an hf hb hok hn h)

/-- the objects of a list are among others, by new names; they are apart from a third list's -/
def inO (ren : Nat → Nat) (ob : List (Nat × Ob)) : List (Nat × Ob) → Prop
  | [] => True
  | p :: l => look ob (ren p.1) = some p.2 ∧ inO ren ob l
def outO (ren : Nat → Nat) (rest : List (Nat × Ob)) : List (Nat × Ob) → Prop
  | [] => True
  | p :: l => look rest (ren p.1) = none ∧ outO ren rest l
def freshO (ren : Nat → Nat) : List (Nat × Ob) → Bool
  | [] => true
  | p :: l => l.all (fun q => ren q.1 != ren p.1) && freshO ren l

theorem inO_at {ren : Nat → Nat} {ob : List (Nat × Ob)} : ∀ {l : List (Nat × Ob)}, inO ren ob l → ∀ p ∈ l, look ob (ren p.1) = some p.2
  | [], _, _, h => by simp at h
  | q :: l, h, p, hp => by
    rcases List.mem_cons.1 hp with rfl | hp
    · exact h.1
    · exact inO_at h.2 p hp
theorem outO_at {ren : Nat → Nat} {rest : List (Nat × Ob)} : ∀ {l : List (Nat × Ob)}, outO ren rest l → ∀ p ∈ l, look rest (ren p.1) = none
  | [], _, _, h => by simp at h
  | q :: l, h, p, hp => by
    rcases List.mem_cons.1 hp with rfl | hp
    · exact h.1
    · exact outO_at h.2 p hp
theorem freshO_at {ren : Nat → Nat} : ∀ {l : List (Nat × Ob)}, freshO ren l = true → ∀ p ∈ l, ∀ q ∈ l, ren p.1 = ren q.1 → p = q
  | [], _, _, h => by simp at h
  | a :: l, h, p, hp => by
    intro q hq e
    simp only [freshO, Bool.and_eq_true, List.all_eq_true, bne_iff_ne, ne_eq] at h
    rcases List.mem_cons.1 hp with e1 | hp1
    · rcases List.mem_cons.1 hq with e2 | hq1
      · rw [e1, e2]
      · exact absurd (by rw [← e1]; exact e.symm) (h.1 q hq1)
    · rcases List.mem_cons.1 hq with e2 | hq1
      · exact absurd (by rw [← e2]; exact e) (h.1 p hp1)
      · exact freshO_at h.2 p hp1 q hq1 e

theorem CallG.own {f : FuncId} {args : List AV} {ob : List (Nat × Ob)} {K : AV → List (Nat × Ob) → Prop} {Kp : D → List (Nat × Ob) → Prop} {args' : List AV} {os : List (Nat × Ob)} {β : Type} {R : β → Prop} {r : β → AV} {L : β → List (Nat × Ob)}
    (h : ACalls P f args' os fun ae os' => ∃ y, R y ∧ ae = .ret (r y) ∧ os' = L y) (ren : Nat → Nat) (rest : List (Nat × Ob)) (r' : β → AV) (ob2 : β → List (Nat × Ob)) (ha : All2 AV.le args args') (hos : inO ren ob os) (hf : freshO ren os = true)
    (hout : outO ren rest os) (hrest : inO id ob rest) (hr : ∀ y, AV.le (r y) (r' y)) (h2 : ∀ y, renOs ren (L y) ++ rest = ob2 y) (kk : ∀ y, R y → K (r' y) (ob2 y)) : CallG P f args ob K Kp :=
  .gen args' os _ ren rest ha (fun k o hk => inO_at hos (k, o) (look_mem hk)) ⟨fun k k' o o' h1 h2 e => by
      have := freshO_at hf (k, o) (look_mem h1) (k', o') (look_mem h2) e
      cases this; rfl, fun k o hk => outO_at hout (k, o) (look_mem hk)⟩ (fun k o hk => inO_at hrest (k, o) (look_mem hk)) h
    (by rintro q os' ⟨y, hy, e1, rfl⟩; cases e1; exact ⟨r' y, hr y, by rw [h2 y]; exact kk y hy⟩) (by rintro d os' ⟨y, _, e1, _⟩; cases e1)
end

section
variable {K V : Type} [DecidableEq K] {eK : K → D} {eV : V → D}

theorem fit_all {ki : TI} (eK : K → D) (eV : V → D) {m : List (K × V)} (h : ∀ x, fitK ki (eK x) = true) : ∀ e ∈ m.map (fun p => (eK p.1, eV p.2)), fitK ki e.1 = true := by
  intro e he
  obtain ⟨p, _, rfl⟩ := List.mem_map.1 he
  exact h p.1

theorem mget_D (he : ∀ x y, eqDs (cellsOf (eK x)) (cellsOf (eK y)) = decide (x = y)) (m : List (K × V)) (k : K) : findD (cellsOf (eK k)) (m.map fun p => (eK p.1, eV p.2)) = (Go.Kp.mget m k).map eV := by
  induction m with
  | nil => rfl
  | cons p m ih =>
    simp only [List.map_cons, findD, he, Go.Kp.mget, decide_eq_true_eq, ih]
    split <;> rfl

theorem mput_D (he : ∀ x y, eqDs (cellsOf (eK x)) (cellsOf (eK y)) = decide (x = y)) (m : List (K × V)) (k : K) (v : V) : putD (cellsOf (eK k)) (eK k) (eV v) (m.map fun p => (eK p.1, eV p.2)) = (Go.Kp.mput m k v).map fun p => (eK p.1, eV p.2) := by
  induction m with
  | nil => rfl
  | cons p m ih =>
    simp only [List.map_cons, putD, he, Go.Kp.mput, decide_eq_true_eq, ih]
    split <;> rfl

theorem mgt_v (he : ∀ x y, eqDs (cellsOf (eK x)) (cellsOf (eK y)) = decide (x = y)) {m : List (K × V)} {k : K} {z v : V} {b : Bool} (h : Go.Kp.mgt m k z = some (v, b)) : (findD (cellsOf (eK k)) (m.map fun p => (eK p.1, eV p.2))).getD (eV z) = eV v := by
  rw [mget_D he]
  simp only [Go.Kp.mgt, Option.some.injEq, Prod.mk.injEq] at h
  rw [← h.1]
  cases Go.Kp.mget m k <;> rfl

theorem mgt_b (he : ∀ x y, eqDs (cellsOf (eK x)) (cellsOf (eK y)) = decide (x = y)) {m : List (K × V)} {k : K} {z v : V} {b : Bool} (h : Go.Kp.mgt m k z = some (v, b)) : (findD (cellsOf (eK k)) (m.map fun p => (eK p.1, eV p.2))).isSome = b := by
  rw [mget_D he]
  simp only [Go.Kp.mgt, Option.some.injEq, Prod.mk.injEq] at h
  rw [← h.2]
  cases Go.Kp.mget m k <;> rfl
end
end Go.Abs
