/-
  From a contract of a typed function to a law's statement: what an argument is, by its reading; that the call leaves old memory alone.
-/
import Derived.Test.YthjafigloabfpaaAbsQ
import Derived.WalkKit
import Derived.ProofKit
import Derived.OpenShut
import Derived.ShutString
import Derived.ChangeOld
import Derived.Below
import Derived.Lib.SmallJoins
import Derived.Deep.Slices
set_option linter.all false
namespace Go.Abs
open Go Go.ChangeShapes Go.WideShapes Go.ChangeAt Go.RowKit

/-- all that a world holds -/
def allM (w : World) : GM := ⟨fun b o => w.cell? ⟨b, o, none⟩, fun b => match w.heap[b]? with | some (.map a c) => some (a, c) | _ => none⟩
theorem allM_resp (w : World) : Resp (allM w) w := by
  refine ⟨fun b o v h => h, fun b x h => ?_⟩
  simp only [allM] at h
  split at h
  · rename_i a c e
    cases h; exact e
  · cases h

/-- A law's contract, as the statement wants it. -/
theorem law_calls {P : Program} {f : FuncId} {args : List AV} {w : World} {vs : List Value} (h : ACalls P f args [] fun e os => e = .ret (.d (.bool true)) ∧ os = []) (ha : All2 (GamA (allM w)) args vs) :
    Calls P f ⟨vs⟩ w fun e w' => e = .returned (.bool true) ∧ Below w.heap.size w w' := by
  refine (h.run (allM w) w vs (allM_resp w) ha (obs_nil _ _)).mono ?_
  rintro e w' ⟨os', M', _, _, st, g⟩
  rcases g with ⟨r, v, rfl, ⟨hq, _⟩, hg⟩ | ⟨d, v, rfl, ⟨hq, _⟩, _⟩
  · cases hq
    cases hg with | d _ _ hg => ?_
    cases hg with | bool => ?_
    exact ⟨rfl, st.fr.os, st.fr.tape, st.fr.output, st.fr.size, fun k hk => st.fr.keep k hk (by rintro ⟨k', o, hl, _⟩; simp [look_nil] at hl)⟩
  · cases hq

def fits (k : IntKind) (n : Int) : Prop := (Lit.int k n).wf = true

theorem gam_int {M : GM} (k : IntKind) (n : Int) : GamA M (.d (.int k n)) (.int k n) := .d _ _ (.int k n)

theorem flat_int (k : IntKind) (xs : List Int) : (xs.map (fun n => D.int k n)).flatMap cellsOf = xs.map (fun n => D.int k n) := by
  induction xs with
  | nil => rfl
  | cons x xs ih => simp [cellsOf, ih] 

/-- A slice of integers that came in. -/
theorem gam_ints {w : World} {k : IntKind} {b off len cap : Nat} {zs : List Int} (hl : len ≤ cap) (hz : zs.length = cap)
    (hcell : ∀ i, i < zs.length → w.cell? ((⟨b, off, none⟩ : Addr).add i) = some (.int k (zs.getD i 0))) :
    Gam (allM w) (.list 1 ((zs.take len).map fun n => .int k n)) (.slice (some ⟨b, off, none⟩) len cap) := by
  have hlen : ((zs.take len).map fun n => D.int k n).length = len := by simp; omega
  have h := Gam.list (M := allM w) 1 ((zs.take len).map fun n => .int k n) b off cap (fun i => .int k (zs.getD i 0)) (by rw [hlen]; exact hl)
    (fun x hx => by obtain ⟨n, _, rfl⟩ := List.mem_map.1 hx; rfl)
    (fun i d hd => by
      rw [flat_int] at hd
      have hi := (List.getElem?_eq_some_iff.1 hd).1
      rw [hlen] at hi
      have := hcell i (by omega)
      simp only [Addr.add] at this
      by_cases h0 : i = 0
      · subst h0; simpa [allM] using this
      · simpa [allM, h0] using this)
    (fun i d hd => by
      rw [flat_int] at hd
      have hi := (List.getElem?_eq_some_iff.1 hd).1
      rw [hlen] at hi
      simp only [List.getElem?_map, Option.map_eq_some_iff] at hd
      obtain ⟨n, hn, rfl⟩ := hd
      rw [List.getElem?_take, if_pos hi] at hn
      rw [List.getD_eq_getElem?_getD, hn]
      exact .int _ _)
    (fun i d hd => rfl)
  rw [hlen] at h
  exact h
end Go.Abs
