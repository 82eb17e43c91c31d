/-
  No cell of these rows narrows 'for every input' (looked for: loops, veiled, ifaces, maps, wideKeys, modest, calm, conditions, laid).
  DERIVED. THE GIVEN ROWS OF THIS SEAT. 15 by the template 'for every input the law returns true; each argument reads behind the call as it read before'; 0 by the template 'total and deterministic' (their statements: YtbceakhnnnfiaaaTotals.lean).
  GIVEN WITH THE SEED: the statements are not yours to turn. If you find one false, say at which input.
  Laid BY PROGRAM, IN A SANDBOX (cutbox-rows.mjs): the forced cells as the released guide's own fill.sh prints them over the translation 3c2dd59f986b4255… (all of the seat's roots in one cut). By AI agents, Wed Nov 11 2026. No macro, syntax, notation, axiom, sorry.
-/
import Derived.Test.YtbceakhnnnfiaaaChecked
import GoSem.Claim
import GoSem.ClaimJoined
import GoSem.ClaimMapViews
import Derived.JoinedTies
import Derived.KernelRfl
namespace Go.Proofs.Ytbceakhnnnfiaaa
/- THE CELL 'sum', in the pinned program and in every row, IS THE sha256 OF THE DUMP (.gsa) THAT YtbceakhnnnfiaaaProg.lean LOADS. Nothing in Lean hashes anything: it is a label: what it is worth is what the hold of that sum in a sandbox is worth. -/
noncomputable def Try.pinned : Pinned := { name := "ytbceakhnnnfiaaa", sum := "3c2dd59f986b42554fa1d54839c7083a8dfebd2e3a40666f93c8831292bf6e48", checked := Try.checked }
namespace Rows
def none {H : Type} : Left H := { results := [], args := [] }

/-- 'kingpinlaw09.LadderMays': WHATEVER THE INPUT: true; the input reads as it did. -/
def ladderMaysSpec : ChangeSpec := { name := "ladderMays", fn := fun _ => fun
  | [d] => { results := [.lit (.bool true)], args := [d] }
  | _ => none }
def ladderMaysRow : OpenClaim := { program := "ytbceakhnnnfiaaa", sum := "3c2dd59f986b42554fa1d54839c7083a8dfebd2e3a40666f93c8831292bf6e48", func := "kingpin/kingpinlaw09.LadderMays", spec := "ladderMays", unfollowed := true, recurses := true, plainKeys := false, apart := false }
def LadderMaysSaid : Prop := ladderMaysRow.holds Try.pinned (OpenSpec.ofChange ladderMaysSpec)

/-- ITS FALSE NEIGHBOUR: 'it returns false'. Refute it at one input. -/
def ladderMaysWrong : ChangeSpec := { name := "ladderMays", fn := fun _ => fun
  | [d] => { results := [.lit (.bool false)], args := [d] }
  | _ => none }
def LadderMaysWrongFalsely : Prop := ladderMaysRow.holds Try.pinned (OpenSpec.ofChange ladderMaysWrong)

/-- 'kingpinlaw09.LadderHangs': WHATEVER THE INPUT: true; the input reads as it did. -/
def ladderHangsSpec : ChangeSpec := { name := "ladderHangs", fn := fun _ => fun
  | [d] => { results := [.lit (.bool true)], args := [d] }
  | _ => none }
def ladderHangsRow : OpenClaim := { program := "ytbceakhnnnfiaaa", sum := "3c2dd59f986b42554fa1d54839c7083a8dfebd2e3a40666f93c8831292bf6e48", func := "kingpin/kingpinlaw09.LadderHangs", spec := "ladderHangs", unfollowed := true, recurses := true, plainKeys := false, apart := false }
def LadderHangsSaid : Prop := ladderHangsRow.holds Try.pinned (OpenSpec.ofChange ladderHangsSpec)

/-- ITS FALSE NEIGHBOUR: 'it returns false'. Refute it at one input. -/
def ladderHangsWrong : ChangeSpec := { name := "ladderHangs", fn := fun _ => fun
  | [d] => { results := [.lit (.bool false)], args := [d] }
  | _ => none }
def LadderHangsWrongFalsely : Prop := ladderHangsRow.holds Try.pinned (OpenSpec.ofChange ladderHangsWrong)

/-- 'kingpinlaw09.LadderMore': WHATEVER THE INPUT: true; the input reads as it did. -/
def ladderMoreSpec : ChangeSpec := { name := "ladderMore", fn := fun _ => fun
  | [d1, d2, d3] => { results := [.lit (.bool true)], args := [d1, d2, d3] }
  | _ => none }
def ladderMoreRow : OpenClaim := { program := "ytbceakhnnnfiaaa", sum := "3c2dd59f986b42554fa1d54839c7083a8dfebd2e3a40666f93c8831292bf6e48", func := "kingpin/kingpinlaw09.LadderMore", spec := "ladderMore", unfollowed := true, recurses := true, plainKeys := false, apart := false }
def LadderMoreSaid : Prop := ladderMoreRow.holds Try.pinned (OpenSpec.ofChange ladderMoreSpec)

/-- ITS FALSE NEIGHBOUR: 'it returns false'. Refute it at one input. -/
def ladderMoreWrong : ChangeSpec := { name := "ladderMore", fn := fun _ => fun
  | [d1, d2, d3] => { results := [.lit (.bool false)], args := [d1, d2, d3] }
  | _ => none }
def LadderMoreWrongFalsely : Prop := ladderMoreRow.holds Try.pinned (OpenSpec.ofChange ladderMoreWrong)

/-- 'kingpinlaw09.LadderPlain': WHATEVER THE INPUT: true; the input reads as it did. -/
def ladderPlainSpec : ChangeSpec := { name := "ladderPlain", fn := fun _ => fun
  | [d] => { results := [.lit (.bool true)], args := [d] }
  | _ => none }
def ladderPlainRow : OpenClaim := { program := "ytbceakhnnnfiaaa", sum := "3c2dd59f986b42554fa1d54839c7083a8dfebd2e3a40666f93c8831292bf6e48", func := "kingpin/kingpinlaw09.LadderPlain", spec := "ladderPlain", unfollowed := true, recurses := true, plainKeys := false, apart := false }
def LadderPlainSaid : Prop := ladderPlainRow.holds Try.pinned (OpenSpec.ofChange ladderPlainSpec)

/-- ITS FALSE NEIGHBOUR: 'it returns false'. Refute it at one input. -/
def ladderPlainWrong : ChangeSpec := { name := "ladderPlain", fn := fun _ => fun
  | [d] => { results := [.lit (.bool false)], args := [d] }
  | _ => none }
def LadderPlainWrongFalsely : Prop := ladderPlainRow.holds Try.pinned (OpenSpec.ofChange ladderPlainWrong)

/-- 'kingpinlaw09.LadderOrder': WHATEVER THE INPUT: true; the input reads as it did. -/
def ladderOrderSpec : ChangeSpec := { name := "ladderOrder", fn := fun _ => fun
  | [d1, d2] => { results := [.lit (.bool true)], args := [d1, d2] }
  | _ => none }
def ladderOrderRow : OpenClaim := { program := "ytbceakhnnnfiaaa", sum := "3c2dd59f986b42554fa1d54839c7083a8dfebd2e3a40666f93c8831292bf6e48", func := "kingpin/kingpinlaw09.LadderOrder", spec := "ladderOrder", unfollowed := true, recurses := true, plainKeys := false, apart := false }
def LadderOrderSaid : Prop := ladderOrderRow.holds Try.pinned (OpenSpec.ofChange ladderOrderSpec)

/-- ITS FALSE NEIGHBOUR: 'it returns false'. Refute it at one input. -/
def ladderOrderWrong : ChangeSpec := { name := "ladderOrder", fn := fun _ => fun
  | [d1, d2] => { results := [.lit (.bool false)], args := [d1, d2] }
  | _ => none }
def LadderOrderWrongFalsely : Prop := ladderOrderRow.holds Try.pinned (OpenSpec.ofChange ladderOrderWrong)

/-- 'kingpinlaw09.LadderOn': WHATEVER THE INPUT: true; the input reads as it did. -/
def ladderOnSpec : ChangeSpec := { name := "ladderOn", fn := fun _ => fun
  | [d1, d2, d3] => { results := [.lit (.bool true)], args := [d1, d2, d3] }
  | _ => none }
def ladderOnRow : OpenClaim := { program := "ytbceakhnnnfiaaa", sum := "3c2dd59f986b42554fa1d54839c7083a8dfebd2e3a40666f93c8831292bf6e48", func := "kingpin/kingpinlaw09.LadderOn", spec := "ladderOn", unfollowed := true, recurses := true, plainKeys := false, apart := false }
def LadderOnSaid : Prop := ladderOnRow.holds Try.pinned (OpenSpec.ofChange ladderOnSpec)

/-- ITS FALSE NEIGHBOUR: 'it returns false'. Refute it at one input. -/
def ladderOnWrong : ChangeSpec := { name := "ladderOn", fn := fun _ => fun
  | [d1, d2, d3] => { results := [.lit (.bool false)], args := [d1, d2, d3] }
  | _ => none }
def LadderOnWrongFalsely : Prop := ladderOnRow.holds Try.pinned (OpenSpec.ofChange ladderOnWrong)

/-- 'kingpinlaw09.LadderTree': WHATEVER THE INPUT: true; the input reads as it did. -/
def ladderTreeSpec : ChangeSpec := { name := "ladderTree", fn := fun _ => fun
  | [d] => { results := [.lit (.bool true)], args := [d] }
  | _ => none }
def ladderTreeRow : OpenClaim := { program := "ytbceakhnnnfiaaa", sum := "3c2dd59f986b42554fa1d54839c7083a8dfebd2e3a40666f93c8831292bf6e48", func := "kingpin/kingpinlaw09.LadderTree", spec := "ladderTree", unfollowed := true, recurses := true, plainKeys := false, apart := false }
def LadderTreeSaid : Prop := ladderTreeRow.holds Try.pinned (OpenSpec.ofChange ladderTreeSpec)

/-- ITS FALSE NEIGHBOUR: 'it returns false'. Refute it at one input. -/
def ladderTreeWrong : ChangeSpec := { name := "ladderTree", fn := fun _ => fun
  | [d] => { results := [.lit (.bool false)], args := [d] }
  | _ => none }
def LadderTreeWrongFalsely : Prop := ladderTreeRow.holds Try.pinned (OpenSpec.ofChange ladderTreeWrong)

/-- 'kingpinlaw09.LadderTrees': WHATEVER THE INPUT: true; the input reads as it did. -/
def ladderTreesSpec : ChangeSpec := { name := "ladderTrees", fn := fun _ => fun
  | [d] => { results := [.lit (.bool true)], args := [d] }
  | _ => none }
def ladderTreesRow : OpenClaim := { program := "ytbceakhnnnfiaaa", sum := "3c2dd59f986b42554fa1d54839c7083a8dfebd2e3a40666f93c8831292bf6e48", func := "kingpin/kingpinlaw09.LadderTrees", spec := "ladderTrees", unfollowed := true, recurses := true, plainKeys := false, apart := false }
def LadderTreesSaid : Prop := ladderTreesRow.holds Try.pinned (OpenSpec.ofChange ladderTreesSpec)

/-- ITS FALSE NEIGHBOUR: 'it returns false'. Refute it at one input. -/
def ladderTreesWrong : ChangeSpec := { name := "ladderTrees", fn := fun _ => fun
  | [d] => { results := [.lit (.bool false)], args := [d] }
  | _ => none }
def LadderTreesWrongFalsely : Prop := ladderTreesRow.holds Try.pinned (OpenSpec.ofChange ladderTreesWrong)

/-- 'kingpinlaw09.LadderNexts': WHATEVER THE INPUT: true; the input reads as it did. -/
def ladderNextsSpec : ChangeSpec := { name := "ladderNexts", fn := fun _ => fun
  | [d] => { results := [.lit (.bool true)], args := [d] }
  | _ => none }
def ladderNextsRow : OpenClaim := { program := "ytbceakhnnnfiaaa", sum := "3c2dd59f986b42554fa1d54839c7083a8dfebd2e3a40666f93c8831292bf6e48", func := "kingpin/kingpinlaw09.LadderNexts", spec := "ladderNexts", unfollowed := true, recurses := true, plainKeys := false, apart := false }
def LadderNextsSaid : Prop := ladderNextsRow.holds Try.pinned (OpenSpec.ofChange ladderNextsSpec)

/-- ITS FALSE NEIGHBOUR: 'it returns false'. Refute it at one input. -/
def ladderNextsWrong : ChangeSpec := { name := "ladderNexts", fn := fun _ => fun
  | [d] => { results := [.lit (.bool false)], args := [d] }
  | _ => none }
def LadderNextsWrongFalsely : Prop := ladderNextsRow.holds Try.pinned (OpenSpec.ofChange ladderNextsWrong)

/-- 'kingpinlaw09.LadderBegins': WHATEVER THE INPUT: true; the input reads as it did. -/
def ladderBeginsSpec : ChangeSpec := { name := "ladderBegins", fn := fun _ => fun
  | [d] => { results := [.lit (.bool true)], args := [d] }
  | _ => none }
def ladderBeginsRow : OpenClaim := { program := "ytbceakhnnnfiaaa", sum := "3c2dd59f986b42554fa1d54839c7083a8dfebd2e3a40666f93c8831292bf6e48", func := "kingpin/kingpinlaw09.LadderBegins", spec := "ladderBegins", unfollowed := true, recurses := true, plainKeys := false, apart := false }
def LadderBeginsSaid : Prop := ladderBeginsRow.holds Try.pinned (OpenSpec.ofChange ladderBeginsSpec)

/-- ITS FALSE NEIGHBOUR: 'it returns false'. Refute it at one input. -/
def ladderBeginsWrong : ChangeSpec := { name := "ladderBegins", fn := fun _ => fun
  | [d] => { results := [.lit (.bool false)], args := [d] }
  | _ => none }
def LadderBeginsWrongFalsely : Prop := ladderBeginsRow.holds Try.pinned (OpenSpec.ofChange ladderBeginsWrong)

/-- 'kingpinlaw09.LadderProves': WHATEVER THE INPUT: true; the input reads as it did. -/
def ladderProvesSpec : ChangeSpec := { name := "ladderProves", fn := fun _ => fun
  | [d1, d2, d3] => { results := [.lit (.bool true)], args := [d1, d2, d3] }
  | _ => none }
def ladderProvesRow : OpenClaim := { program := "ytbceakhnnnfiaaa", sum := "3c2dd59f986b42554fa1d54839c7083a8dfebd2e3a40666f93c8831292bf6e48", func := "kingpin/kingpinlaw09.LadderProves", spec := "ladderProves", unfollowed := true, recurses := true, plainKeys := false, apart := false }
def LadderProvesSaid : Prop := ladderProvesRow.holds Try.pinned (OpenSpec.ofChange ladderProvesSpec)

/-- ITS FALSE NEIGHBOUR: 'it returns false'. Refute it at one input. -/
def ladderProvesWrong : ChangeSpec := { name := "ladderProves", fn := fun _ => fun
  | [d1, d2, d3] => { results := [.lit (.bool false)], args := [d1, d2, d3] }
  | _ => none }
def LadderProvesWrongFalsely : Prop := ladderProvesRow.holds Try.pinned (OpenSpec.ofChange ladderProvesWrong)

/-- 'kingpinlaw09.LadderCourses': WHATEVER THE INPUT: true; the input reads as it did. -/
def ladderCoursesSpec : ChangeSpec := { name := "ladderCourses", fn := fun _ => fun
  | [d1, d2] => { results := [.lit (.bool true)], args := [d1, d2] }
  | _ => none }
def ladderCoursesRow : OpenClaim := { program := "ytbceakhnnnfiaaa", sum := "3c2dd59f986b42554fa1d54839c7083a8dfebd2e3a40666f93c8831292bf6e48", func := "kingpin/kingpinlaw09.LadderCourses", spec := "ladderCourses", unfollowed := true, recurses := true, plainKeys := false, apart := false }
def LadderCoursesSaid : Prop := ladderCoursesRow.holds Try.pinned (OpenSpec.ofChange ladderCoursesSpec)

/-- ITS FALSE NEIGHBOUR: 'it returns false'. Refute it at one input. -/
def ladderCoursesWrong : ChangeSpec := { name := "ladderCourses", fn := fun _ => fun
  | [d1, d2] => { results := [.lit (.bool false)], args := [d1, d2] }
  | _ => none }
def LadderCoursesWrongFalsely : Prop := ladderCoursesRow.holds Try.pinned (OpenSpec.ofChange ladderCoursesWrong)

/-- 'kingpinlaw09.LadderUpsets': WHATEVER THE INPUT: true; the input reads as it did. -/
def ladderUpsetsSpec : ChangeSpec := { name := "ladderUpsets", fn := fun _ => fun
  | [d1, d2] => { results := [.lit (.bool true)], args := [d1, d2] }
  | _ => none }
def ladderUpsetsRow : OpenClaim := { program := "ytbceakhnnnfiaaa", sum := "3c2dd59f986b42554fa1d54839c7083a8dfebd2e3a40666f93c8831292bf6e48", func := "kingpin/kingpinlaw09.LadderUpsets", spec := "ladderUpsets", unfollowed := true, recurses := true, plainKeys := false, apart := false }
def LadderUpsetsSaid : Prop := ladderUpsetsRow.holds Try.pinned (OpenSpec.ofChange ladderUpsetsSpec)

/-- ITS FALSE NEIGHBOUR: 'it returns false'. Refute it at one input. -/
def ladderUpsetsWrong : ChangeSpec := { name := "ladderUpsets", fn := fun _ => fun
  | [d1, d2] => { results := [.lit (.bool false)], args := [d1, d2] }
  | _ => none }
def LadderUpsetsWrongFalsely : Prop := ladderUpsetsRow.holds Try.pinned (OpenSpec.ofChange ladderUpsetsWrong)

/-- 'kingpinlaw09.LadderLast': WHATEVER THE INPUT: true; the input reads as it did. -/
def ladderLastSpec : ChangeSpec := { name := "ladderLast", fn := fun _ => fun
  | [d1, d2] => { results := [.lit (.bool true)], args := [d1, d2] }
  | _ => none }
def ladderLastRow : OpenClaim := { program := "ytbceakhnnnfiaaa", sum := "3c2dd59f986b42554fa1d54839c7083a8dfebd2e3a40666f93c8831292bf6e48", func := "kingpin/kingpinlaw09.LadderLast", spec := "ladderLast", unfollowed := true, recurses := true, plainKeys := false, apart := false }
def LadderLastSaid : Prop := ladderLastRow.holds Try.pinned (OpenSpec.ofChange ladderLastSpec)

/-- ITS FALSE NEIGHBOUR: 'it returns false'. Refute it at one input. -/
def ladderLastWrong : ChangeSpec := { name := "ladderLast", fn := fun _ => fun
  | [d1, d2] => { results := [.lit (.bool false)], args := [d1, d2] }
  | _ => none }
def LadderLastWrongFalsely : Prop := ladderLastRow.holds Try.pinned (OpenSpec.ofChange ladderLastWrong)

/-- 'kingpinlaw09.LadderNames': WHATEVER THE INPUT: true; the input reads as it did. -/
def ladderNamesSpec : ChangeSpec := { name := "ladderNames", fn := fun _ => fun
  | [] => { results := [.lit (.bool true)], args := [] }
  | _ => none }
def ladderNamesRow : OpenClaim := { program := "ytbceakhnnnfiaaa", sum := "3c2dd59f986b42554fa1d54839c7083a8dfebd2e3a40666f93c8831292bf6e48", func := "kingpin/kingpinlaw09.LadderNames", spec := "ladderNames", unfollowed := true, recurses := true, plainKeys := false, apart := false }
def LadderNamesSaid : Prop := ladderNamesRow.holds Try.pinned (OpenSpec.ofChange ladderNamesSpec)

/-- ITS FALSE NEIGHBOUR: 'it returns false'. Refute it at one input. -/
def ladderNamesWrong : ChangeSpec := { name := "ladderNames", fn := fun _ => fun
  | [] => { results := [.lit (.bool false)], args := [] }
  | _ => none }
def LadderNamesWrongFalsely : Prop := ladderNamesRow.holds Try.pinned (OpenSpec.ofChange ladderNamesWrong)

/- THE SECOND FORM. 'bulk': how many values and letters a reading holds, each counted each time it is reached (what is shared counts as often as it is met; a slice's spare places count too). A statement '..UptoSaid' is the law's where the arguments, and the package variables that the reading takes, are together of bulk at most 1048576: NARROWER than '..Said'. Prove '..Said' where nothing that the law and all that it calls make is longer than what came in: it says more and counts as full. Else prove '..UptoSaid'. A law counts once. -/
mutual
def uptoBulk {H : Type} : DataW H → Nat
  | .lit (.string bytes) => bytes.length + 1
  | .lit _ => 1
  | .nil => 1
  | .ptr d => uptoBulk d + 1
  | .slice elems spare => uptoBulkAll elems + uptoBulkAll spare + 1
  | .agg parts => uptoBulkAll parts + 1
  | .iface _ d => uptoBulk d + 1
  | .map entries => uptoBulkEntries entries + 1
  | .held _ => 1
def uptoBulkAll {H : Type} : List (DataW H) → Nat
  | [] => 0
  | d :: r => uptoBulk d + uptoBulkAll r
def uptoBulkEntries {H : Type} : List (Lit × DataW H) → Nat
  | [] => 0
  | x :: r => uptoBulkEntry x + uptoBulkEntries r
def uptoBulkEntry {H : Type} : Lit × DataW H → Nat
  | (.string bytes, d) => bytes.length + uptoBulk d + 1
  | (_, d) => uptoBulk d + 1
 end
def uptoSmall : (H : Type) → List (DataW H) → Bool := fun _ ds => decide (uptoBulkAll ds ≤ 1048576)
def OpenSpec.upto (s : _root_.Go.ChangeSpec) : _root_.Go.OpenSpec := { _root_.Go.OpenSpec.ofChange s with cond := some uptoSmall }

/-- 'kingpinlaw09.LadderMays', WHERE WHAT IT READS IS OF BULK AT MOST 1048576: true; the input reads as it did. -/
def ladderMaysUptoRow : OpenClaim := { program := "ytbceakhnnnfiaaa", sum := "3c2dd59f986b42554fa1d54839c7083a8dfebd2e3a40666f93c8831292bf6e48", func := "kingpin/kingpinlaw09.LadderMays", spec := "ladderMays", unfollowed := true, recurses := true, plainKeys := false, apart := false, narrowed := true }
def LadderMaysUptoSaid : Prop := ladderMaysUptoRow.holds Try.pinned (OpenSpec.upto ladderMaysSpec)

/-- 'kingpinlaw09.LadderHangs', WHERE WHAT IT READS IS OF BULK AT MOST 1048576: true; the input reads as it did. -/
def ladderHangsUptoRow : OpenClaim := { program := "ytbceakhnnnfiaaa", sum := "3c2dd59f986b42554fa1d54839c7083a8dfebd2e3a40666f93c8831292bf6e48", func := "kingpin/kingpinlaw09.LadderHangs", spec := "ladderHangs", unfollowed := true, recurses := true, plainKeys := false, apart := false, narrowed := true }
def LadderHangsUptoSaid : Prop := ladderHangsUptoRow.holds Try.pinned (OpenSpec.upto ladderHangsSpec)

/-- 'kingpinlaw09.LadderMore', WHERE WHAT IT READS IS OF BULK AT MOST 1048576: true; the input reads as it did. -/
def ladderMoreUptoRow : OpenClaim := { program := "ytbceakhnnnfiaaa", sum := "3c2dd59f986b42554fa1d54839c7083a8dfebd2e3a40666f93c8831292bf6e48", func := "kingpin/kingpinlaw09.LadderMore", spec := "ladderMore", unfollowed := true, recurses := true, plainKeys := false, apart := false, narrowed := true }
def LadderMoreUptoSaid : Prop := ladderMoreUptoRow.holds Try.pinned (OpenSpec.upto ladderMoreSpec)

/-- 'kingpinlaw09.LadderPlain', WHERE WHAT IT READS IS OF BULK AT MOST 1048576: true; the input reads as it did. -/
def ladderPlainUptoRow : OpenClaim := { program := "ytbceakhnnnfiaaa", sum := "3c2dd59f986b42554fa1d54839c7083a8dfebd2e3a40666f93c8831292bf6e48", func := "kingpin/kingpinlaw09.LadderPlain", spec := "ladderPlain", unfollowed := true, recurses := true, plainKeys := false, apart := false, narrowed := true }
def LadderPlainUptoSaid : Prop := ladderPlainUptoRow.holds Try.pinned (OpenSpec.upto ladderPlainSpec)

/-- 'kingpinlaw09.LadderOrder', WHERE WHAT IT READS IS OF BULK AT MOST 1048576: true; the input reads as it did. -/
def ladderOrderUptoRow : OpenClaim := { program := "ytbceakhnnnfiaaa", sum := "3c2dd59f986b42554fa1d54839c7083a8dfebd2e3a40666f93c8831292bf6e48", func := "kingpin/kingpinlaw09.LadderOrder", spec := "ladderOrder", unfollowed := true, recurses := true, plainKeys := false, apart := false, narrowed := true }
def LadderOrderUptoSaid : Prop := ladderOrderUptoRow.holds Try.pinned (OpenSpec.upto ladderOrderSpec)

/-- 'kingpinlaw09.LadderOn', WHERE WHAT IT READS IS OF BULK AT MOST 1048576: true; the input reads as it did. -/
def ladderOnUptoRow : OpenClaim := { program := "ytbceakhnnnfiaaa", sum := "3c2dd59f986b42554fa1d54839c7083a8dfebd2e3a40666f93c8831292bf6e48", func := "kingpin/kingpinlaw09.LadderOn", spec := "ladderOn", unfollowed := true, recurses := true, plainKeys := false, apart := false, narrowed := true }
def LadderOnUptoSaid : Prop := ladderOnUptoRow.holds Try.pinned (OpenSpec.upto ladderOnSpec)

/-- 'kingpinlaw09.LadderTree', WHERE WHAT IT READS IS OF BULK AT MOST 1048576: true; the input reads as it did. -/
def ladderTreeUptoRow : OpenClaim := { program := "ytbceakhnnnfiaaa", sum := "3c2dd59f986b42554fa1d54839c7083a8dfebd2e3a40666f93c8831292bf6e48", func := "kingpin/kingpinlaw09.LadderTree", spec := "ladderTree", unfollowed := true, recurses := true, plainKeys := false, apart := false, narrowed := true }
def LadderTreeUptoSaid : Prop := ladderTreeUptoRow.holds Try.pinned (OpenSpec.upto ladderTreeSpec)

/-- 'kingpinlaw09.LadderTrees', WHERE WHAT IT READS IS OF BULK AT MOST 1048576: true; the input reads as it did. -/
def ladderTreesUptoRow : OpenClaim := { program := "ytbceakhnnnfiaaa", sum := "3c2dd59f986b42554fa1d54839c7083a8dfebd2e3a40666f93c8831292bf6e48", func := "kingpin/kingpinlaw09.LadderTrees", spec := "ladderTrees", unfollowed := true, recurses := true, plainKeys := false, apart := false, narrowed := true }
def LadderTreesUptoSaid : Prop := ladderTreesUptoRow.holds Try.pinned (OpenSpec.upto ladderTreesSpec)

/-- 'kingpinlaw09.LadderNexts', WHERE WHAT IT READS IS OF BULK AT MOST 1048576: true; the input reads as it did. -/
def ladderNextsUptoRow : OpenClaim := { program := "ytbceakhnnnfiaaa", sum := "3c2dd59f986b42554fa1d54839c7083a8dfebd2e3a40666f93c8831292bf6e48", func := "kingpin/kingpinlaw09.LadderNexts", spec := "ladderNexts", unfollowed := true, recurses := true, plainKeys := false, apart := false, narrowed := true }
def LadderNextsUptoSaid : Prop := ladderNextsUptoRow.holds Try.pinned (OpenSpec.upto ladderNextsSpec)

/-- 'kingpinlaw09.LadderBegins', WHERE WHAT IT READS IS OF BULK AT MOST 1048576: true; the input reads as it did. -/
def ladderBeginsUptoRow : OpenClaim := { program := "ytbceakhnnnfiaaa", sum := "3c2dd59f986b42554fa1d54839c7083a8dfebd2e3a40666f93c8831292bf6e48", func := "kingpin/kingpinlaw09.LadderBegins", spec := "ladderBegins", unfollowed := true, recurses := true, plainKeys := false, apart := false, narrowed := true }
def LadderBeginsUptoSaid : Prop := ladderBeginsUptoRow.holds Try.pinned (OpenSpec.upto ladderBeginsSpec)

/-- 'kingpinlaw09.LadderProves', WHERE WHAT IT READS IS OF BULK AT MOST 1048576: true; the input reads as it did. -/
def ladderProvesUptoRow : OpenClaim := { program := "ytbceakhnnnfiaaa", sum := "3c2dd59f986b42554fa1d54839c7083a8dfebd2e3a40666f93c8831292bf6e48", func := "kingpin/kingpinlaw09.LadderProves", spec := "ladderProves", unfollowed := true, recurses := true, plainKeys := false, apart := false, narrowed := true }
def LadderProvesUptoSaid : Prop := ladderProvesUptoRow.holds Try.pinned (OpenSpec.upto ladderProvesSpec)

/-- 'kingpinlaw09.LadderCourses', WHERE WHAT IT READS IS OF BULK AT MOST 1048576: true; the input reads as it did. -/
def ladderCoursesUptoRow : OpenClaim := { program := "ytbceakhnnnfiaaa", sum := "3c2dd59f986b42554fa1d54839c7083a8dfebd2e3a40666f93c8831292bf6e48", func := "kingpin/kingpinlaw09.LadderCourses", spec := "ladderCourses", unfollowed := true, recurses := true, plainKeys := false, apart := false, narrowed := true }
def LadderCoursesUptoSaid : Prop := ladderCoursesUptoRow.holds Try.pinned (OpenSpec.upto ladderCoursesSpec)

/-- 'kingpinlaw09.LadderUpsets', WHERE WHAT IT READS IS OF BULK AT MOST 1048576: true; the input reads as it did. -/
def ladderUpsetsUptoRow : OpenClaim := { program := "ytbceakhnnnfiaaa", sum := "3c2dd59f986b42554fa1d54839c7083a8dfebd2e3a40666f93c8831292bf6e48", func := "kingpin/kingpinlaw09.LadderUpsets", spec := "ladderUpsets", unfollowed := true, recurses := true, plainKeys := false, apart := false, narrowed := true }
def LadderUpsetsUptoSaid : Prop := ladderUpsetsUptoRow.holds Try.pinned (OpenSpec.upto ladderUpsetsSpec)

/-- 'kingpinlaw09.LadderLast', WHERE WHAT IT READS IS OF BULK AT MOST 1048576: true; the input reads as it did. -/
def ladderLastUptoRow : OpenClaim := { program := "ytbceakhnnnfiaaa", sum := "3c2dd59f986b42554fa1d54839c7083a8dfebd2e3a40666f93c8831292bf6e48", func := "kingpin/kingpinlaw09.LadderLast", spec := "ladderLast", unfollowed := true, recurses := true, plainKeys := false, apart := false, narrowed := true }
def LadderLastUptoSaid : Prop := ladderLastUptoRow.holds Try.pinned (OpenSpec.upto ladderLastSpec)

/-- 'kingpinlaw09.LadderNames', WHERE WHAT IT READS IS OF BULK AT MOST 1048576: true; the input reads as it did. -/
def ladderNamesUptoRow : OpenClaim := { program := "ytbceakhnnnfiaaa", sum := "3c2dd59f986b42554fa1d54839c7083a8dfebd2e3a40666f93c8831292bf6e48", func := "kingpin/kingpinlaw09.LadderNames", spec := "ladderNames", unfollowed := true, recurses := true, plainKeys := false, apart := false, narrowed := true }
def LadderNamesUptoSaid : Prop := ladderNamesUptoRow.holds Try.pinned (OpenSpec.upto ladderNamesSpec)

end Rows
end Go.Proofs.Ytbceakhnnnfiaaa
