/-
  The law DeskNames of the program returns true for every input, and leaves its arguments as they were. No condition.
-/
import Derived.Test.YtiaoloodgildeaaGreatDoorJA
import Derived.Test.YtiaoloodgildeaaGreatDoorJB
import Derived.Test.YtiaoloodgildeaaGreatDoorTie
import Derived.Test.YtiaoloodgildeaaGreatDoorCards
import Derived.Test.YtiaoloodgildeaaGreatDoorTab
import Derived.Stop.Joined
import Derived.Test.YtiaoloodgildeaaGreatDoorWDeskNames
import Derived.Test.YtiaoloodgildeaaGreatDoorFit
import Derived.Test.YtiaoloodgildeaaGreatDoorPNames
namespace Go.Proofs.YtiaoloodgildeaaGreatDoor.deskNamesProof
open Go.ChangeShapes Go.WideShapes Go.ChangeAt Go.RowKit Go.Joins Go.Abs
open Go.ChangeMaps (open_string shut_string)
set_option linter.all false

theorem own : ownKnob Tryz.prog.godebug = none := by kernel_rfl
theorem laidOut : laidOutB Tryz.prog = true := by kernel_rfl

set_option maxRecDepth 100000 in
theorem lifted (os : Os) (started : os.Started) (H : Type) (enc : TypeId × Value → H) :
    ReturnsInHanded {} Tryz.checked os 7 .any (fun w args => (Rows.deskNamesSpec.pre enc Tryz.prog Tryz.f7 Rows.deskNamesRow.domain false w args ∧ laidMetH Tryz.prog LV w) ∧ sizedMet enc Tryz.prog Tryz.f7 (OpenSpec.ofChange Rows.deskNamesSpec) false w args) (Rows.deskNamesSpec.post enc Tryz.prog Tryz.f7 false true false false) := by
  refine ret_change_and (C := Tryz.checked) (X := fun w _ => laidMetH Tryz.prog LV w) (fun _ _ _ hh h => h.of_heap hh) own started (by kernel_rfl) Tryz.func7
    (ChangeSpec.witness_shaped (enc := enc) (C := Tryz.checked) (os := os) (X := fun w _ => laidMetH Tryz.prog LV w) false (World.laidAll Tryz.prog os LV) #[] 8 (World.laidAll_os _ _ _)
      (World.shaped_of_ZipB (by kernel_rfl) (by kernel_rfl)) (by kernel_rfl) (by kernel_rfl) (by kernel_rfl)
      (by rw [MakeChecks.laidMetH_plain _ _ _ (by kernel_rfl)]; exact laidMet_laidAll _ (by kernel_rfl) (by kernel_rfl))) ?_
  intro W base args ds gs before hsh hval0 hW hL
  have hval : ∀ (j : Nat) t v, Tryz.f7.params[j]? = some t → args[j]? = some v → Value.okWide Tryz.prog W .any base t v := hval0
  have hW' := hW
  obtain ⟨p, q, hA0, hV, rfl, hfz, hnd⟩ := hW
  have hA : DataW.TrodAll enc Tryz.prog W 0 (fun _ => true) true Tryz.f7.params.toList args.toList ds p := hA0
  rw [Tryz.params7] at hA hval
  obtain ⟨hargs, rfl, rfl⟩ := trodAll_nil hA
  obtain rfl : args = #[] := by cases args; simp_all
  obtain ⟨rfl, rfl⟩ := trodVars_none hV
  clear hA0 hval0
  refine (law_calls (law12DeskNamesC (N := 4000) (by omega) (names_true)) All2.nil (tab_of hsh hL)).mono fun e W' ⟨he, bel⟩ => ?_
  subst he
  exact ⟨_, rfl, _, _, _, [], _, [], hW', trodAll_mk1 (shut_bool Tryz.underlying4 _), trodAll_mk0, rfl, bel.frame _, fun h => by cases h⟩

set_option maxRecDepth 100000 in
theorem jf : joinedFacts Tryz.prog 7 Tryz.f7 Rows.deskNamesSpec Rows.deskNamesRow = true := by
  simp only [joinedFacts, Bool.and_eq_true]
  exact ⟨⟨⟨⟨⟨⟨⟨⟨⟨⟨⟨⟨⟨⟨⟨⟨⟨⟨⟨⟨⟨⟨⟨⟨⟨⟨⟨⟨⟨⟨⟨jf0, jf1⟩, jf2⟩, jf3⟩, jf4⟩, jf5⟩, jf6⟩, jf7⟩, jf8⟩, jf9⟩, jf10⟩, jf11⟩, jf12⟩, jf13⟩, jf14⟩, jf15⟩, jf16⟩, jf17⟩, jf18⟩, jf19⟩, jf20⟩, jf21⟩, jf22⟩, jf23⟩, jf24⟩, jf25⟩, jf26⟩, jf27⟩, jf28⟩, jf29⟩, jf30⟩, jf31⟩
set_option maxRecDepth 100000 in
theorem over : Rows.DeskNamesSaid :=
  OpenClaim.holds_of_wide 7 Tryz.f7 rfl rfl rfl rfl rfl rfl rfl ⟨rfl, rfl, rfl, rfl, rfl⟩ rfl rfl rfl rfl rfl kf4 Tryz.func7 jf
    (of_decide_eq_true (by kernel_rfl)) (by unfold Func.isWrapper; first | (rw [if_pos (by decide +kernel)]; kernel_rfl) | (rw [if_neg (by decide +kernel)]; exact ⟨rfl, rfl⟩))
    (fun os started H enc _ => lifted os started H enc)

set_option maxRecDepth 100000 in
theorem proved : Rows.DeskNamesCardSaid :=
  Claim7.holds_tied_plain_at .later [] [.data, .data, .data, .data, .sentinel, .sentinel, .pinned] true (true, "8e02db1a5c14be975b12eb7b4e57e9b9ff87c1ffbb3c04d574c48ccb077acf77") true over (fun _ h => by cases h) kf0 (fun _ h => by cases h) deskNames_row_tie rfl ⟨rfl, rfl⟩ kf1 rfl
    (fun f fn hf hfn => by
      obtain rfl : f = 7 := (Option.some.inj (kf4.symm.trans hf)).symm
      obtain rfl : fn = Tryz.f7 := (Option.some.inj (Tryz.func7.symm.trans hfn)).symm
      exact ⟨kf2, fun j t ht => by
        rw [Tryz.params7] at ht
        simp at ht⟩)
    kf3
#print axioms proved
end Go.Proofs.YtiaoloodgildeaaGreatDoor.deskNamesProof
