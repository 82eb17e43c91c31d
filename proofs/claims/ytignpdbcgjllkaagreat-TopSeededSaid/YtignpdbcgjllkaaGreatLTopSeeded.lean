/-
  The law TopSeeded of the program returns true for every input, and leaves its arguments as they were. No condition.
-/
import Derived.Test.YtignpdbcgjllkaaGreatRows
import Derived.Test.YtignpdbcgjllkaaGreatWTopSeeded
import Derived.Test.YtignpdbcgjllkaaGreatFit
import Derived.Test.YtignpdbcgjllkaaGreatPTS
namespace Go.Proofs.YtignpdbcgjllkaaGreat.topSeededProof
open Go.ChangeShapes Go.WideShapes Go.ChangeAt Go.RowKit Go.Joins Go.Abs
open Go.ChangeMaps (open_string shut_string)
set_option linter.all false

theorem own : ownKnob Tryz.prog.godebug = none := by kernel_rfl
theorem laidOut : laidOutB Tryz.prog = true := by kernel_rfl

set_option maxRecDepth 100000 in
theorem lifted (os : Os) (started : os.Started) (H : Type) (enc : TypeId × Value → H) :
    ReturnsInHanded {} Tryz.checked os 4 .any (Rows.topSeededSpec.pre6 enc Tryz.prog Tryz.f4 Rows.topSeededRow.domain false) (Rows.topSeededSpec.post enc Tryz.prog Tryz.f4 false true false false) := by
  refine returnsInHanded_of_change (C := Tryz.checked) own started (by kernel_rfl) Tryz.func4
    (ChangeSpec.witness6 (enc := enc) (C := Tryz.checked) false ⟨#[], #[.agg #[.int .i64 0, .slice none 0 0], .slice none 0 0, .int .u8 0], []⟩ 8 (by kernel_rfl) (by kernel_rfl) (by kernel_rfl) (by kernel_rfl)) ?_
  intro W base args ds gs before hval0 hW hcnd _
  have hval : ∀ (j : Nat) t v, Tryz.f4.params[j]? = some t → args[j]? = some v → Value.okWide Tryz.prog W .any base t v := hval0
  have hW' := hW
  obtain ⟨p, q, hA0, hV, rfl, hfz, hnd⟩ := hW
  have hA : DataW.TrodAll enc Tryz.prog W 0 (fun _ => true) true Tryz.f4.params.toList args.toList ds p := hA0
  rw [Tryz.params4] at hA hval
  obtain ⟨v0, vs0, d0, ds0, p0, q0, hargs, rfl, rfl, h0, r0⟩ := trodAll_cons hA
  obtain ⟨v1, vs1, d1, ds1, p1, q1, rfl, rfl, rfl, h1, r1⟩ := trodAll_cons r0
  obtain ⟨v2, vs2, d2, ds2, p2, q2, rfl, rfl, rfl, h2, r2⟩ := trodAll_cons r1
  obtain ⟨rfl, rfl, rfl⟩ := trodAll_nil r2
  obtain rfl : args = #[v0, v1, v2] := by cases args; simp_all
  obtain ⟨rfl, rfl⟩ := trodVars_none hV
  have k0 := h0
  have lt0 : ∀ x ∈ p0, x.block < W.heap.size := by obtain ⟨m, hm⟩ := k0; exact DataW.trod_lt m _ _ _ hm
  obtain ⟨c0, ft0, hg0⟩ := open_any 4 (by kernel_rfl) (hval 0 61 v0 rfl rfl) h0
  obtain ⟨x0, rfl, fx0⟩ := fit61 (F := 4) (by omega) ft0
  have e0 : isAggT Tryz.prog 61 = true := by unfold isAggT; rw [Tryz.underlying61]
  rw [e0] at hg0
  have k1 := h1
  have lt1 : ∀ x ∈ p1, x.block < W.heap.size := by obtain ⟨m, hm⟩ := k1; exact DataW.trod_lt m _ _ _ hm
  obtain ⟨c1, ft1, hg1⟩ := open_any 2 (by kernel_rfl) (hval 1 62 v1 rfl rfl) h1
  obtain ⟨x1, rfl, fx1⟩ := fit62 (F := 2) (by omega) ft1
  have e1 : isAggT Tryz.prog 62 = false := by unfold isAggT; rw [Tryz.underlying62]
  rw [e1] at hg1
  have k2 := h2
  have lt2 : ∀ x ∈ p2, x.block < W.heap.size := by obtain ⟨m, hm⟩ := k2; exact DataW.trod_lt m _ _ _ hm
  obtain ⟨c2, ft2, hg2⟩ := open_any 1 (by kernel_rfl) (hval 2 5 v2 rfl rfl) h2
  obtain ⟨x2, rfl, fx2⟩ := fit5 (F := 1) (by omega) ft2
  have e2 : isAggT Tryz.prog 5 = false := by unfold isAggT; rw [Tryz.underlying5]
  rw [e2] at hg2
  clear hA0 hval0
  refine (law_calls (kingpintopTopSeededC (N := 2097152) (by omega) (seeded_true (N := 2097152) (by omega) x0 x1 x2 (fun x hx => fits_u8 (fx1 x hx)) (fits_u8 fx2))) (All2.cons hg0 (All2.cons hg1 (All2.cons hg2 All2.nil)))).mono fun e W' ⟨he, bel⟩ => ?_
  subst he
  exact ⟨_, rfl, _, _, _, [], _, [], hW', trodAll_mk1 (shut_bool Tryz.underlying4 _), (trodAll_cons_mk (Below.trod laidOut (by kernel_rfl) (of_decide_eq_true (by kernel_rfl)) k0 bel lt0) (trodAll_cons_mk (Below.trod laidOut (by kernel_rfl) (of_decide_eq_true (by kernel_rfl)) k1 bel lt1) (trodAll_cons_mk (Below.trod laidOut (by kernel_rfl) (of_decide_eq_true (by kernel_rfl)) k2 bel lt2) trodAll_mk0))), rfl, bel.frame _, fun h => by cases h⟩

theorem over : Rows.topSeededRow.holds Tryz.pinned (OpenSpec.ofChange Rows.topSeededSpec) :=
  OpenClaim.holds_of_wide 4 Tryz.f4 rfl rfl rfl rfl rfl rfl rfl ⟨rfl, rfl, rfl, rfl, rfl⟩ rfl rfl rfl rfl rfl (by kernel_rfl) Tryz.func4 (by kernel_rfl)
    (of_decide_eq_true (by kernel_rfl)) (by unfold Func.isWrapper; rw [if_neg (of_decide_eq_false (by kernel_rfl))]; exact ⟨rfl, rfl⟩)
    (fun os started H enc _ => lifted os started H enc)

theorem proved : Rows.TopSeededSaid := over
#print axioms proved
end Go.Proofs.YtignpdbcgjllkaaGreat.topSeededProof
