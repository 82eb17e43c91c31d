/-
  Words of the typed functions: wrapped sums, elements, slices, appends, loops with fuel. No program in sight.
-/
import GoSem.Core.View
set_option linter.all false
namespace Go.Kp

/-- a sum as an int holds it -/
def w64 (n : Int) : Int := Go.IntKind.wrap .i64 n

structure Ar1 (α : Type) where
  a0 : α
  deriving DecidableEq
structure Ar2 (α : Type) where
  a0 : α
  a1 : α
  deriving DecidableEq
structure Ar3 (α : Type) where
  a0 : α
  a1 : α
  a2 : α
  deriving DecidableEq
structure Ar4 (α : Type) where
  a0 : α
  a1 : α
  a2 : α
  a3 : α
  deriving DecidableEq
structure Ar5 (α : Type) where
  a0 : α
  a1 : α
  a2 : α
  a3 : α
  a4 : α
  deriving DecidableEq

def idx {α : Type} (l : List α) (i : Int) : Option α := if 0 ≤ i then l[i.toNat]? else none
def slc {α : Type} (l : List α) (a b : Int) : Option (List α) := if 0 ≤ a ∧ a ≤ b ∧ b ≤ l.length then some ((l.take b.toNat).drop a.toNat) else none
def app {α : Type} (N : Nat) (l m : List α) : Option (List α) := if l.length + m.length ≤ N then some (l ++ m) else none
def mkl {α : Type} (N : Nat) (n : Int) (z : α) : Option (List α) := if 0 ≤ n ∧ n ≤ N then some (List.replicate n.toNat z) else none
def nz (n : Int) : Option Unit := if n = 0 then none else some ()
def nng (n : Int) : Option Unit := if 0 ≤ n then some () else none
theorem nng_ok {n : Int} {u : Unit} (h : nng n = some u) : 0 ≤ n := by unfold nng at h; split at h <;> simp_all
/-- shifts; bits -/
def shrI (k : Go.IntKind) (a b : Int) : Int := a.fdiv (2 ^ (min b.toNat k.bits))
def shlI (k : Go.IntKind) (a b : Int) : Int := k.wrap (a * 2 ^ (min b.toNat k.bits))
def andI (k : Go.IntKind) (a b : Int) : Int := k.wrap (BitVec.ofInt k.bits a &&& BitVec.ofInt k.bits b).toNat
def orI (k : Go.IntKind) (a b : Int) : Int := k.wrap (BitVec.ofInt k.bits a ||| BitVec.ofInt k.bits b).toNat
def xorI (k : Go.IntKind) (a b : Int) : Int := k.wrap (BitVec.ofInt k.bits a ^^^ BitVec.ofInt k.bits b).toNat

/-- a loop, a function that calls itself: by fuel -/
def loopN {σ R : Type} (b : (σ → Option R) → σ → Option R) : Nat → σ → Option R
  | 0, _ => none
  | n + 1, x => b (loopN b n) x

theorem loopN_some {σ R : Type} {b : (σ → Option R) → σ → Option R} {n : Nat} {x : σ} {r : R} (h : loopN b n x = some r) : ∃ m, n = m + 1 ∧ b (loopN b m) x = some r := by
  cases n with
  | zero => cases h
  | succ m => exact ⟨m, rfl, h⟩

/-- What a loop computes, by a number that each round lowers. -/
theorem loopN_eq {σ R : Type} {b : (σ → Option R) → σ → Option R} (f : σ → Option R) (μ : σ → Nat) (ok : σ → Prop)
    (h : ∀ x rec, ok x → (∀ y, ok y → μ y < μ x → rec y = f y) → b rec x = f x) : ∀ (n : Nat) (x : σ), ok x → μ x < n → loopN b n x = f x := by
  intro n
  induction n with
  | zero => intro x _ hx; omega
  | succ n ih => intro x hx hn; exact h x _ hx fun y hy hlt => ih y hy (by omega)

/-- maps: what lies at a key; another thing at it -/
def mget {K V : Type} [DecidableEq K] : List (K × V) → K → Option V
  | [], _ => none
  | p :: m, k => if k = p.1 then some p.2 else mget m k
def mput {K V : Type} [DecidableEq K] : List (K × V) → K → V → List (K × V)
  | [], k, v => [(k, v)]
  | p :: m, k, v => if k = p.1 then (k, v) :: m else p :: mput m k v
def mgt {K V : Type} [DecidableEq K] (m : List (K × V)) (k : K) (z : V) : Option (V × Bool) := some ((mget m k).getD z, (mget m k).isSome)

theorem obind {α β : Type} {x : Option α} {f : α → Option β} {r : β} (h : Option.bind x f = some r) : ∃ a, x = some a ∧ f a = some r := Option.bind_eq_some_iff.1 h
theorem ite_t {α : Type} {c : Bool} {a b r : α} (hc : c = true) (h : (if c then a else b) = r) : a = r := by rw [if_pos hc] at h; exact h
theorem ite_f {α : Type} {c : Bool} {a b r : α} (hc : c = false) (h : (if c then a else b) = r) : b = r := by rw [if_neg (by rw [hc]; exact Bool.false_ne_true)] at h; exact h

section
variable {α β : Type} (f : α → β) {l m y : List α} {a b i n : Int} {x z : α} {N : Nat}

theorem idx_0 (h : idx l i = some x) : 0 ≤ i := by unfold idx at h; split at h <;> simp_all
theorem idx_map (h : idx l i = some x) : (l.map f)[i.toNat]? = some (f x) := by unfold idx at h; split at h <;> simp_all
theorem idx_need (h : idx l i = some x) : 0 ≤ i ∧ i.toNat < (l.map f).length := by
  refine ⟨idx_0 h, ?_⟩
  exact (List.getElem?_eq_some_iff.1 (idx_map f h)).1
theorem idx_len (h : idx l i = some x) : i.toNat < (l.map f).length := (idx_need f h).2
theorem idx_el (h : idx l i = some x) : (l.map f)[((i.toNat : Nat) : Int).toNat]? = some (f x) := by rw [Int.toNat_natCast]; exact idx_map f h
theorem rows_view {γ : Type} (f : α → β) (g : List β → γ) (l : List (List α)) : (l.map (List.map f)).map g = l.map (fun x => g (x.map f)) := by rw [List.map_map]; rfl
theorem set_map (f : α → β) (l : List α) (i : Nat) (x : α) {y : β} (h : y = f x) : (l.map f).set i y = (l.set i x).map f := by rw [h, List.map_set]

theorem slc_and (h : slc l a b = some y) : 0 ≤ a ∧ a ≤ b ∧ b ≤ l.length ∧ y = (l.take b.toNat).drop a.toNat := by unfold slc at h; split at h <;> simp_all
theorem slc_need (h : slc l a b = some y) {s : Nat} : 0 ≤ a ∧ a ≤ b ∧ b ≤ ((l.map f).length : Int) ∧ s = s := by
  have := slc_and h; rw [List.length_map]; exact ⟨this.1, this.2.1, this.2.2.1, rfl⟩
theorem slc_needL (h : slc l a (l.length : Int) = some y) {s : Nat} : 0 ≤ a ∧ a ≤ ((l.map f).length : Int) ∧ ((l.map f).length : Int) ≤ ((l.map f).length : Int) ∧ s = s := by
  have := slc_and h; rw [List.length_map]; exact ⟨this.1, this.2.1, Int.le_refl _, rfl⟩
theorem slc_need3 (h : slc l a b = some y) {s : Nat} : 0 ≤ a ∧ a ≤ b ∧ b ≤ ((l.map f).length : Int) ∧ b = b ∧ s = s := by
  have := slc_and h; rw [List.length_map]; exact ⟨this.1, this.2.1, this.2.2.1, rfl, rfl⟩
theorem slc_need0 (h : slc l 0 b = some y) : 0 ≤ b ∧ b ≤ ((l.map f).length : Int) := by
  have := slc_and h; rw [List.length_map]; exact ⟨this.2.1, this.2.2.1⟩
theorem slc_map (h : slc l a b = some y) : ((l.map f).take b.toNat).drop a.toNat = y.map f := by
  have := slc_and h; rw [this.2.2.2, ← List.map_take, ← List.map_drop]
theorem slc_mapL (h : slc l a (l.length : Int) = some y) : ((l.map f).take (((l.map f).length : Int)).toNat).drop a.toNat = y.map f := by
  rw [List.length_map]; exact slc_map f h
theorem slc_map0 (h : slc l 0 b = some y) : (l.map f).take b.toNat = y.map f := by
  have := slc_map f h; simpa using this

theorem app_and (h : app N l m = some y) : l.length + m.length ≤ N ∧ y = l ++ m := by unfold app at h; split at h <;> simp_all
theorem app_need (hN : N ≤ 1073741824) (h : app N l m = some y) {c : Nat} (hc : c ≤ 65536) {f : α → β} : ((l.map f).length + (m.map f).length) * c ≤ 140737488355328 ∧ (l.map f).length + (m.map f).length ≤ 9223372036854775807 := by
  have := (app_and h).1
  rw [List.length_map, List.length_map]
  have h2 : (l.length + m.length) * c ≤ 1073741824 * 65536 := Nat.mul_le_mul (by omega) hc
  omega
theorem app_need0 (hN : N ≤ 1073741824) (h : app N [] m = some y) {c : Nat} (hc : c ≤ 65536) {f : α → β} : (m.map f).length * c ≤ 140737488355328 ∧ (m.map f).length ≤ 9223372036854775807 := by
  have := (app_and h).1
  rw [List.length_map]
  simp only [List.length_nil, Nat.zero_add] at this
  have h2 : m.length * c ≤ 1073741824 * 65536 := Nat.mul_le_mul (by omega) hc
  omega
theorem app_map (h : app N l m = some y) : l.map f ++ m.map f = y.map f := by rw [(app_and h).2, List.map_append]
/-- bytes put together, as many as a memory bears -/
def appB (l m : List Int) : Option (List Int) := if l.length + m.length ≤ 140737488355328 then some (l ++ m) else none
theorem appB_ok {l m : List Int} (h : l.length + m.length ≤ 140737488355328) : appB l m = some (l ++ m) := by unfold appB; rw [if_pos h]
theorem appB_and {l m y : List Int} (h : appB l m = some y) : l.length + m.length ≤ 140737488355328 ∧ y = l ++ m := by unfold appB at h; split at h <;> simp_all
theorem appB_need {l m y : List Int} {β : Type} (h : appB l m = some y) {c : Nat} (hc : c ≤ 1) {f : Int → β} : ((l.map f).length + (m.map f).length) * c ≤ 140737488355328 ∧ (l.map f).length + (m.map f).length ≤ 9223372036854775807 := by
  have := (appB_and h).1
  rw [List.length_map, List.length_map]
  have h2 : (l.length + m.length) * c ≤ 140737488355328 * 1 := Nat.mul_le_mul this hc
  exact ⟨by omega, by omega⟩
theorem appB_map {l m y : List Int} {β : Type} (f : Int → β) (h : appB l m = some y) : l.map f ++ m.map f = y.map f := by rw [(appB_and h).2, List.map_append]
theorem app_map0 (h : app N [] m = some y) : m.map f = y.map f := by rw [(app_and h).2, List.nil_append]

theorem mkl_and (h : mkl N n z = some y) : 0 ≤ n ∧ n ≤ N ∧ y = List.replicate n.toNat z := by unfold mkl at h; split at h <;> simp_all
theorem mkl_need (hN : N ≤ 1073741824) (h : mkl N n z = some y) {c : Nat} (hc : c ≤ 65536) : 0 ≤ n ∧ n ≤ n ∧ n * c ≤ 140737488355328 ∧ n ≤ 9223372036854775807 := by
  have := mkl_and h
  refine ⟨this.1, Int.le_refl _, ?_, by omega⟩
  have h2 : n * c ≤ 1073741824 * 65536 := Int.mul_le_mul (by omega) (by omega) (by omega) (by omega)
  omega
theorem mkl_map (h : mkl N n z = some y) {w : β} (hw : w = f z) : List.replicate n.toNat w = y.map f := by rw [(mkl_and h).2.2, hw, List.map_replicate]

theorem nz_ne {u : Unit} (h : nz n = some u) : n ≠ 0 := by unfold nz at h; split at h <;> simp_all
end
end Go.Kp
