/-
  From a contract of a typed function to a law's statement: what an argument is, by its reading; that the call leaves old memory alone.
-/
import Derived.Test.YthbifolpofillaaAbsQ
import Derived.WalkKit
import Derived.ProofKit
import Derived.OpenShut
import Derived.ShutString
import Derived.ChangeOld
import Derived.Below
import Derived.Lib.SmallJoins
import Derived.Deep.Slices
set_option linter.all false
namespace Go.Abs
open Go Go.Joins Go.Deep Go.ChangeShapes Go.WideShapes Go.ChangeAt Go.RowKit

/-- all that a world holds -/
def allM (w : World) : GM := ⟨fun b o => w.cell? ⟨b, o, none⟩, fun b => match w.heap[b]? with | some (.map a c) => some (a, c) | _ => none⟩
theorem allM_resp (w : World) : Resp (allM w) w := by
  refine ⟨fun b o v h => h, fun b x h => ?_⟩
  simp only [allM] at h
  split at h
  · rename_i a c e
    cases h; exact e
  · cases h

/-- A law's contract, as the statement wants it. -/
theorem law_calls {P : Program} {f : FuncId} {args : List AV} {w : World} {vs : List Value} (h : ACalls P f args [] fun e os => e = .ret (.d (.bool true)) ∧ os = []) (ha : All2 (GamA (allM w)) args vs) :
    Calls P f ⟨vs⟩ w fun e w' => e = .returned (.bool true) ∧ Below w.heap.size w w' := by
  refine (h.run (allM w) w vs (allM_resp w) ha (obs_nil _ _)).mono ?_
  rintro e w' ⟨os', M', _, _, st, g⟩
  rcases g with ⟨r, v, rfl, ⟨hq, _⟩, hg⟩ | ⟨d, v, rfl, ⟨hq, _⟩, _⟩
  · cases hq
    cases hg with | d _ _ hg => ?_
    cases hg with | bool => ?_
    exact ⟨rfl, st.fr.os, st.fr.tape, st.fr.output, st.fr.size, fun k hk => st.fr.keep k hk (by rintro ⟨k', o, hl, _⟩; simp [look_nil] at hl)⟩
  · cases hq

def fits (k : IntKind) (n : Int) : Prop := (Lit.int k n).wf = true

theorem gam_int {M : GM} (k : IntKind) (n : Int) : GamA M (.d (.int k n)) (.int k n) := .d _ _ (.int k n)

theorem flat_int (k : IntKind) (xs : List Int) : (xs.map (fun n => D.int k n)).flatMap cellsOf = xs.map (fun n => D.int k n) := by
  induction xs with
  | nil => rfl
  | cons x xs ih => simp [cellsOf, ih] 

/-- A slice of integers that came in. -/
theorem gam_ints {w : World} {k : IntKind} {b off len cap : Nat} {zs : List Int} (hl : len ≤ cap) (hz : zs.length = cap)
    (hcell : ∀ i, i < zs.length → w.cell? ((⟨b, off, none⟩ : Addr).add i) = some (.int k (zs.getD i 0))) :
    Gam (allM w) (.list 1 ((zs.take len).map fun n => .int k n)) (.slice (some ⟨b, off, none⟩) len cap) := by
  have hlen : ((zs.take len).map fun n => D.int k n).length = len := by simp; omega
  have h := Gam.list (M := allM w) 1 ((zs.take len).map fun n => .int k n) b off cap (fun i => .int k (zs.getD i 0)) (by rw [hlen]; exact hl)
    (fun x hx => by obtain ⟨n, _, rfl⟩ := List.mem_map.1 hx; rfl)
    (fun i d hd => by
      rw [flat_int] at hd
      have hi := (List.getElem?_eq_some_iff.1 hd).1
      rw [hlen] at hi
      have := hcell i (by omega)
      simp only [Addr.add] at this
      by_cases h0 : i = 0
      · subst h0; simpa [allM] using this
      · simpa [allM, h0] using this)
    (fun i d hd => by
      rw [flat_int] at hd
      have hi := (List.getElem?_eq_some_iff.1 hd).1
      rw [hlen] at hi
      simp only [List.getElem?_map, Option.map_eq_some_iff] at hd
      obtain ⟨n, hn, rfl⟩ := hd
      rw [List.getElem?_take, if_pos hi] at hn
      rw [List.getD_eq_getElem?_getD, hn]
      exact .int _ _)
    (fun i d hd => rfl)
  rw [hlen] at h
  exact h

theorem gam_int4 {w : World} (k : IntKind) (a b c d : Int) : GamA (allM w) (.d (.agg [.int k a, .int k b, .int k c, .int k d])) (.agg #[.int k a, .int k b, .int k c, .int k d]) := by
  refine .d _ _ (.agg _ [_, _, _, _] rfl ?_ ?_)
  · intro i x y hx hy
    match i with
    | 0 => cases hx; cases hy; exact .int _ _
    | 1 => cases hx; cases hy; exact .int _ _
    | 2 => cases hx; cases hy; exact .int _ _
    | 3 => cases hx; cases hy; exact .int _ _
    | n + 4 => simp at hx
  · intro v hv
    simp only [List.mem_cons, List.not_mem_nil, or_false] at hv
    rcases hv with rfl | rfl | rfl | rfl <;> rfl

section
variable {H : Type} {enc : TypeId × Value → H} {P : Program} {W : World} {spare : Nat → Bool} {r : Reach} {b0 : Nat} {t e : TypeId} {k : IntKind} {v : Value} {d : DataW H} {p : List MemPlace}

theorem open_an_int (ht : P.underlying t = some (.int k)) (hv : Value.okWide P W r b0 t v) (h : DataW.Trod enc P W 0 spare true t v d p) :
    ∃ n : Int, fits k n ∧ (∀ M : GM, GamA M (.d (.int k n)) v) := by
  obtain ⟨n, rfl, rfl, rfl, hw⟩ := open_int ht hv h
  exact ⟨n, hw, fun M => .d _ _ (.int _ _)⟩

theorem open_list_ints (ht : P.underlying t = some (.slice e)) (he : P.underlying e = some (.int k)) (hc : P.cellsOf e = 1) (hv : Value.okWide P W r b0 t v) (h : DataW.Trod enc P W 0 (fun _ => true) true t v d p) :
    ∃ xs : List Int, (∀ x ∈ xs, fits k x) ∧ Gam (allM W) (.list 1 (xs.map fun n => .int k n)) v := by
  obtain ⟨a0, len, cap, rfl⟩ := okWide_slice ht hv
  obtain ⟨fuel, hf⟩ := h
  rcases open_ints ht he hc hf with ⟨hcs, _⟩ | ⟨x, l, c, zs, hcs, _, hl, hm, hz, _, hcell, hwz⟩
  · simp [Value.cells] at hcs
    obtain ⟨rfl, rfl, rfl⟩ := hcs
    exact ⟨[], by simp, .nils 1⟩
  · simp [Value.cells] at hcs
    obtain ⟨rfl, rfl, rfl⟩ := hcs
    have hs : x.spot = none := by
      simp only [Value.okWide, ht, Cell.okWide, Cell.ok] at hv
      exact hv.2.2.2.1
    obtain ⟨b, off, spot⟩ := x
    simp only at hs
    subst hs
    refine ⟨zs.take len, fun n hn => hwz n (List.mem_of_mem_take hn), gam_ints hl (by simpa using hz) hcell⟩

/-- the same, and the datum's own length -/
theorem open_list_ints_len (ht : P.underlying t = some (.slice e)) (he : P.underlying e = some (.int k)) (hc : P.cellsOf e = 1) (hv : Value.okWide P W r b0 t v) (h : DataW.Trod enc P W 0 (fun _ => true) true t v d p) :
    ∃ xs : List Int, (∀ x ∈ xs, fits k x) ∧ Gam (allM W) (.list 1 (xs.map fun n => .int k n)) v ∧ (xs = [] ∨ ∃ els spare, d = .slice els spare ∧ els.length = xs.length) := by
  obtain ⟨a0, len, cap, rfl⟩ := okWide_slice ht hv
  obtain ⟨fuel, hf⟩ := h
  rcases open_ints ht he hc hf with ⟨hcs, _⟩ | ⟨x, l, c, zs, hcs, _, hl, hm, hz, hx, hcell, hwz⟩
  · simp [Value.cells] at hcs
    obtain ⟨rfl, rfl, rfl⟩ := hcs
    exact ⟨[], by simp, .nils 1, .inl rfl⟩
  · simp [Value.cells] at hcs
    obtain ⟨rfl, rfl, rfl⟩ := hcs
    have hs : x.spot = none := by
      simp only [Value.okWide, ht, Cell.okWide, Cell.ok] at hv
      exact hv.2.2.2.1
    obtain ⟨b, off, spot⟩ := x
    simp only at hs
    subst hs
    refine ⟨zs.take len, fun n hn => hwz n (List.mem_of_mem_take hn), gam_ints hl (by simpa using hz) hcell, .inr ⟨lits k (zs.take len), lits k (zs.drop len), ?_, ?_⟩⟩
    · exact (Prod.mk.inj hx).1
    · simp [lits]

theorem open_ints4 {f0 f1 f2 f3 : Field} (hs : P.underlying t = some (.struct #[f0, f1, f2, f3])) (hone : oneCellFields P #[f0, f1, f2, f3] = true) (hC : P.cellsOf t = 4)
    (he : P.underlying e = some (.int k)) (h0 : f0.type = e) (h1 : f1.type = e) (h2 : f2.type = e) (h3 : f3.type = e) (hv : Value.okWide P W r b0 t v) (h : DataW.Trod enc P W 0 spare true t v d p) :
    ∃ a b c d' : Int, fits k a ∧ fits k b ∧ fits k c ∧ fits k d' ∧ (∀ w : World, GamA (allM w) (.d (.agg [.int k a, .int k b, .int k c, .int k d'])) v) := by
  obtain ⟨v0, v1, v2, v3, y0, y1, y2, y3, n, rfl, _, _, q0, q1, q2, q3⟩ := Go.Joins.open_agg4 hs hone hC hv h
  rw [h0] at q0; rw [h1] at q1; rw [h2] at q2; rw [h3] at q3
  obtain ⟨a, e0, _, w0⟩ := DataW.trod_int he q0
  obtain ⟨b, e1, _, w1⟩ := DataW.trod_int he q1
  obtain ⟨c, e2, _, w2⟩ := DataW.trod_int he q2
  obtain ⟨d', e3, _, w3⟩ := DataW.trod_int he q3
  simp at e0 e1 e2 e3
  subst e0 e1 e2 e3
  exact ⟨a, b, c, d', w0, w1, w2, w3, fun w => gam_int4 k a b c d'⟩
end

theorem fits_u8 {n : Int} (h : fits .u8 n) : 0 ≤ n ∧ n ≤ 255 := by
  unfold fits at h
  simp [Lit.wf, IntKind.min, IntKind.max, IntKind.signed, IntKind.bits] at h
  omega
theorem fits_u32 {n : Int} (h : fits .u32 n) : 0 ≤ n ∧ n ≤ 4294967295 := by
  unfold fits at h
  simp [Lit.wf, IntKind.min, IntKind.max, IntKind.signed, IntKind.bits] at h
  omega
theorem fits_i64 {n : Int} (h : fits .i64 n) : -9223372036854775808 ≤ n ∧ n ≤ 9223372036854775807 := by
  unfold fits at h
  simp [Lit.wf, IntKind.min, IntKind.max, IntKind.signed, IntKind.bits] at h
  omega

/-- a slice of integers that lies in memory -/
theorem gam_ints_any {w : World} {k : IntKind} {a : Addr} {len cap : Nat} {zs : List Int} (hl : len ≤ cap) (hz : zs.length = cap)
    (hcell : ∀ i, i < zs.length → w.cell? (a.add i) = some (.int k (zs.getD i 0))) :
    Gam (allM w) (.list 1 ((zs.take len).map fun n => .int k n)) (.slice (some a) len cap) := by
  by_cases h0 : len = 0
  · subst h0; exact .listz _ _ _
  · have hc := hcell 0 (by omega)
    have hs := World.cell?_spot hc
    obtain ⟨b, off, spot⟩ := a
    simp only [Addr.add, if_true] at hs
    subst hs
    exact gam_ints hl hz hcell

section
variable {H : Type} {enc : TypeId × Value → H} {P : Program} {W : World} {r : Reach} {b0 : Nat} {t t2 e : TypeId} {k : IntKind} {v : Value} {d : DataW H} {p : List MemPlace}

theorem ints_of_trod (ht : P.underlying t2 = some (.slice e)) (he : P.underlying e = some (.int k)) (hc : P.cellsOf e = 1) {fuel : Nat} {cs : List Value} {x : DataW H × List MemPlace}
    (h : DataW.trod enc P W 0 (fun _ => true) true fuel t2 cs = some x) : ∃ (u : Value) (xs : List Int), cs = [u] ∧ (∀ n ∈ xs, fits k n) ∧ Gam (allM W) (.list 1 (xs.map fun n => .int k n)) u ∧ u.oneCell' = true := by
  rcases open_ints ht he hc h with ⟨rfl, _⟩ | ⟨a, l, c, zs, rfl, _, hl, hm, hz, _, hcell, hwz⟩
  · exact ⟨_, [], rfl, by simp, .nils 1, rfl⟩
  · exact ⟨_, zs.take l, rfl, fun n hn => hwz n (List.mem_of_mem_take hn), gam_ints_any hl (by simpa using hz) hcell, rfl⟩

theorem flat_one (xs : List (List Int)) (f : List Int → D) (hf : ∀ x, cellsOf (f x) = [f x]) : (xs.map f).flatMap cellsOf = xs.map f := by
  induction xs with
  | nil => rfl
  | cons x xs ih => simp [hf, ih]

theorem cells_one {w : World} {a : Addr} {cs : List Value} (h : w.cells? 0 a 1 = some cs) : ∃ u, cs = [u] ∧ w.cell? a = some u := by
  unfold World.cells? at h
  rw [if_pos (Nat.zero_le _)] at h
  have e : a.add 0 = a := by simp [Addr.add]
  cases hc : w.cell? a with
  | none => simp [List.range_succ, e, hc] at h
  | some u =>
    simp [List.range_succ, e, hc] at h
    exact ⟨u, h.symm, rfl⟩

theorem build_lists {Q : Nat → List Int → Prop} {n : Nat} (h : ∀ i, i < n → ∃ xs, Q i xs) : ∃ xss : List (List Int), xss.length = n ∧ ∀ (i : Nat) x, xss[i]? = some x → Q i x := by
  induction n with
  | zero => exact ⟨[], rfl, fun i x hx => by simp at hx⟩
  | succ n ih =>
    obtain ⟨xss, h1, h2⟩ := ih fun i hi => h i (by omega)
    obtain ⟨xs, hx⟩ := h n (by omega)
    refine ⟨xss ++ [xs], by simp [h1], fun i x hi => ?_⟩
    by_cases hlt : i < xss.length
    · rw [List.getElem?_append_left hlt] at hi; exact h2 i x hi
    · have hl := (List.getElem?_eq_some_iff.1 hi).1
      simp at hl
      have : i = n := by omega
      subst this
      rw [List.getElem?_append_right (by omega)] at hi
      simp [h1] at hi
      subst hi; exact hx

theorem open_list_lists (ht : P.underlying t = some (.slice t2)) (ht2 : P.underlying t2 = some (.slice e)) (he : P.underlying e = some (.int k)) (hc : P.cellsOf e = 1) (hc2 : P.cellsOf t2 = 1)
    (hv : Value.okWide P W r b0 t v) (h : DataW.Trod enc P W 0 (fun _ => true) true t v d p) :
    ∃ xss : List (List Int), (∀ xs ∈ xss, ∀ x ∈ xs, fits k x) ∧ Gam (allM W) (.list 1 (xss.map fun xs => .list 1 (xs.map fun n => .int k n))) v := by
  obtain ⟨a0, len0, cap0, rfl⟩ := okWide_slice ht hv
  obtain ⟨fuel, hf⟩ := h
  rcases Go.Deep.open_slice ht hf with ⟨hcs, _⟩ | ⟨a, len, cap, m, n, D', Pl, hcs, _, hl, _, hm, _, hel⟩
  · simp [Value.cells] at hcs
    obtain ⟨rfl, rfl, rfl⟩ := hcs
    exact ⟨[], by simp, .nils 1⟩
  · simp [Value.cells] at hcs
    obtain ⟨rfl, rfl, rfl⟩ := hcs
    simp only [if_true] at hm
    subst hm
    have hat : ∀ i, i < len0 → ∃ xs : List Int, (∀ x ∈ xs, fits k x) ∧ ∃ u, W.cell? (a.add i) = some u ∧ Gam (allM W) (.list 1 (xs.map fun n => .int k n)) u ∧ u.oneCell' = true := by
      intro i hi
      obtain ⟨cs', h1, h2⟩ := hel i (by omega)
      rw [hc2, Nat.mul_one] at h1
      obtain ⟨u, rfl, hu⟩ := cells_one h1
      obtain ⟨u', xs, e1, h3, h4, h5⟩ := ints_of_trod ht2 he hc h2
      cases e1
      exact ⟨xs, h3, u, hu, h4, h5⟩
    by_cases h0 : len0 = 0
    · subst h0; exact ⟨[], by simp, .listz _ _ _⟩
    · obtain ⟨xss, hlen, hq⟩ := build_lists hat
      have hspot : a.spot = none := by
        obtain ⟨_, _, u, hu, _⟩ := hat 0 (by omega)
        have := World.cell?_spot hu
        simpa [Addr.add] using this
      obtain ⟨b, off, spot⟩ := a
      simp only at hspot
      subst hspot
      have hadd : ∀ i, (⟨b, off, none⟩ : Addr).add i = ⟨b, off + i, none⟩ := by
        intro i
        simp only [Addr.add]
        split
        · rename_i h; subst h; rfl
        · rfl
      refine ⟨xss, fun xs hxs x hx => ?_, ?_⟩
      · obtain ⟨i, hi⟩ := List.mem_iff_getElem?.1 hxs
        exact (hq i xs hi).1 x hx
      · have hfl := flat_one xss (fun xs => D.list 1 (xs.map fun n => .int k n)) (fun _ => rfl)
        have h := Gam.list (M := allM W) 1 (xss.map fun xs => D.list 1 (xs.map fun n => .int k n)) b off m (fun i => (W.cell? ⟨b, off + i, none⟩).getD undef) (by simp [hlen]; omega)
          (fun x hx => by obtain ⟨xs, _, rfl⟩ := List.mem_map.1 hx; rfl)
          (fun i d' hd => by
            rw [hfl] at hd
            simp only [List.getElem?_map, Option.map_eq_some_iff] at hd
            obtain ⟨xs, hx, rfl⟩ := hd
            obtain ⟨_, u, hu, _⟩ := hq i xs hx
            rw [hadd] at hu
            show W.cell? ⟨b, off + i, none⟩ = _
            rw [hu]; rfl)
          (fun i d' hd => by
            rw [hfl] at hd
            simp only [List.getElem?_map, Option.map_eq_some_iff] at hd
            obtain ⟨xs, hx, rfl⟩ := hd
            obtain ⟨_, u, hu, hg, _⟩ := hq i xs hx
            rw [hadd] at hu
            rw [hu]; exact hg)
          (fun i d' hd => by
            rw [hfl] at hd
            simp only [List.getElem?_map, Option.map_eq_some_iff] at hd
            obtain ⟨xs, hx, rfl⟩ := hd
            obtain ⟨_, u, hu, _, h1⟩ := hq i xs hx
            rw [hadd] at hu
            rw [hu]; exact h1)
        rw [List.length_map, hlen] at h
        exact h
end
end Go.Abs
