/-
  The law TopRated of the program returns true for every input, and leaves its arguments as they were. No condition.
-/
import Derived.Test.YthbifolpofillaaRows
import Derived.Test.YthbifolpofillaaWTopRated
import Derived.Test.YthbifolpofillaaBr
import Derived.Test.YthbifolpofillaaPTop
namespace Go.Proofs.Ythbifolpofillaa.topRatedProof
open Go.ChangeShapes Go.WideShapes Go.ChangeAt Go.RowKit Go.Joins Go.Abs
open Go.ChangeMaps (open_string shut_string)
set_option linter.all false

theorem own : ownKnob Try.prog.godebug = none := by kernel_rfl
theorem laidOut : laidOutB Try.prog = true := by kernel_rfl

/-- what is handed over takes no more bytes than a memory has: so a slice of bytes is not longer -/
theorem reach_len {H : Type} {P : Program} {t e : TypeId} {d : DataW H} {xs : List Int} (ht : P.underlying t = some (.slice e)) (hb : P.bytesOf e = 1)
    (hs : xs = [] ∨ ∃ els spare, d = .slice els spare ∧ els.length = xs.length) (h : ∀ n ∈ d.weights P t, n ≤ reachBytes) : xs.length ≤ 140737488351232 := by
  rcases hs with rfl | ⟨els, sp, rfl, e⟩
  · simp
  · have h1 := h ((els.length + sp.length) * 1) (by rw [DataW.weights, ht]; simp [hb])
    unfold reachBytes at h1
    omega

set_option maxRecDepth 100000 in
theorem lifted (os : Os) (started : os.Started) (H : Type) (enc : TypeId × Value → H) :
    ReturnsInHanded {} Try.checked os 3 .any (fun w args => (Rows.topRatedSpec.pre enc Try.prog Try.f3 Rows.topRatedRow.domain false w args ∧ True) ∧ sizedMet enc Try.prog Try.f3 (OpenSpec.ofChange Rows.topRatedSpec) false w args) (Rows.topRatedSpec.post enc Try.prog Try.f3 false true false false) := by
  refine returnsInHanded_of_change_and (C := Try.checked) (X := fun _ _ => True) (fun _ _ _ _ h => h) own started (by kernel_rfl) Try.func3
    (by
      obtain ⟨w, t, i, h1, h2, h3, h4, ⟨h5, h6⟩, h7⟩ := ChangeSpec.witness6 (enc := enc) (C := Try.checked) (os := os) (s := Rows.topRatedSpec) (fn := Try.f3) (f := 3) (conds := Rows.topRatedRow.domain) false ⟨#[], #[.agg #[.int .i64 0, .int .i64 0, .int .i64 0, .int .i64 0], .slice none 0 0, .slice none 0 0], []⟩ 8 (by kernel_rfl) (by kernel_rfl) (by kernel_rfl) (by kernel_rfl)
      exact ⟨w, t, i, h1, h2, h3, h4, ⟨⟨h5, trivial⟩, h6⟩, h7⟩) ?_
  intro W base args ds gs before hval0 hW hcnd hwt _ _
  have hval : ∀ (j : Nat) t v, Try.f3.params[j]? = some t → args[j]? = some v → Value.okWide Try.prog W .any base t v := hval0
  have hW' := hW
  obtain ⟨p, q, hA0, hV, rfl, hfz, hnd⟩ := hW
  have hA : DataW.TrodAll enc Try.prog W 0 (fun _ => true) true Try.f3.params.toList args.toList ds p := hA0
  rw [Try.params3] at hA hval
  obtain ⟨v0, vs0, d0, ds0, p0, q0, hargs, rfl, rfl, h0, r0⟩ := trodAll_cons hA
  obtain ⟨v1, vs1, d1, ds1, p1, q1, rfl, rfl, rfl, h1, r1⟩ := trodAll_cons r0
  obtain ⟨v2, vs2, d2, ds2, p2, q2, rfl, rfl, rfl, h2, r2⟩ := trodAll_cons r1
  obtain ⟨rfl, rfl, rfl⟩ := trodAll_nil r2
  obtain rfl : args = #[v0, v1, v2] := by cases args; simp_all
  obtain ⟨rfl, rfl⟩ := trodVars_none hV
  have k0 := h0
  have lt0 : ∀ x ∈ p0, x.block < W.heap.size := by obtain ⟨m, hm⟩ := k0; exact DataW.trod_lt m _ _ _ hm
  obtain ⟨a0, b0, c0, e0, fa0, fb0, fc0, fe0, hv0⟩ := open_ints4 Try.underlying23 (by kernel_rfl) (by kernel_rfl) Try.underlying3 rfl rfl rfl rfl (hval 0 23 v0 rfl rfl) h0
  have k1 := h1
  have lt1 : ∀ x ∈ p1, x.block < W.heap.size := by obtain ⟨m, hm⟩ := k1; exact DataW.trod_lt m _ _ _ hm
  obtain ⟨x1, fx1, hg1⟩ := open_list_lists Try.underlying24 Try.underlying29 Try.underlying3 (by kernel_rfl) (by kernel_rfl) (hval 1 24 v1 rfl rfl) h1
  have k2 := h2
  have lt2 : ∀ x ∈ p2, x.block < W.heap.size := by obtain ⟨m, hm⟩ := k2; exact DataW.trod_lt m _ _ _ hm
  obtain ⟨x2, fx2, hg2, hl2⟩ := open_list_ints_len Try.underlying25 Try.underlying5 (by kernel_rfl) (hval 2 25 v2 rfl rfl) h2
  clear hA0 hval0
  have hlw2 := reach_len Try.underlying25 (by kernel_rfl) hl2 (fun n hn => by
    have := List.all_eq_true.1 hwt n (by
      rw [Try.params3]
      simp only [List.cons_append, List.nil_append, DataW.weightsEach, List.mem_append]
      exact .inr (.inr (.inl hn)))
    exact of_decide_eq_true this)
  refine (law_calls (kingpintopTopRatedC (N := 2097152) (by omega) (top_ok ⟨a0, b0, c0, e0⟩ x1 x2 (fun x hx => fits_u8 (fx2 x hx)) hlw2)) (All2.cons (hv0 _) (All2.cons (.d _ _ hg1) (All2.cons (.d _ _ hg2) All2.nil)))).mono fun e W' ⟨he, bel⟩ => ?_
  subst he
  exact ⟨_, rfl, _, _, _, [], _, [], hW', trodAll_mk1 (shut_bool Try.underlying4 _), (trodAll_cons_mk (Below.trod laidOut (by kernel_rfl) (of_decide_eq_true (by kernel_rfl)) k0 bel lt0) (trodAll_cons_mk (Below.trod laidOut (by kernel_rfl) (of_decide_eq_true (by kernel_rfl)) k1 bel lt1) (trodAll_cons_mk (Below.trod laidOut (by kernel_rfl) (of_decide_eq_true (by kernel_rfl)) k2 bel lt2) trodAll_mk0))), rfl, bel.frame _, fun h => by cases h⟩

theorem over : Rows.topRatedRow.holds Try.pinned (OpenSpec.ofChange Rows.topRatedSpec) :=
  OpenClaim.holds_of_wide 3 Try.f3 rfl rfl rfl rfl rfl rfl rfl ⟨rfl, rfl, rfl, rfl, rfl⟩ rfl rfl rfl rfl rfl (by kernel_rfl) Try.func3 (by kernel_rfl)
    (of_decide_eq_true (by kernel_rfl)) (by unfold Func.isWrapper; rw [if_neg (of_decide_eq_false (by kernel_rfl))]; exact ⟨rfl, rfl⟩)
    (fun os started H enc _ => by
      have e : (fun w args => (Rows.topRatedSpec.pre enc Try.prog Try.f3 Rows.topRatedRow.domain false w args ∧ True) ∧ sizedMet enc Try.prog Try.f3 (OpenSpec.ofChange Rows.topRatedSpec) false w args) = Rows.topRatedSpec.pre6 enc Try.prog Try.f3 Rows.topRatedRow.domain false := by
        funext w args; rw [and_true]; rfl
      have h := lifted os started H enc
      rw [e] at h
      exact h)

/-- the statement -/
theorem proved : Rows.TopRatedSaid := over
#print axioms proved
end Go.Proofs.Ythbifolpofillaa.topRatedProof
