/-
  No cell of these rows narrows 'for every input' (looked for: loops, veiled, ifaces, maps, wideKeys, modest, calm, conditions, laid).
  DERIVED. THE GIVEN ROWS OF THIS SEAT. 14 by the template 'for every input the law returns true; each argument reads behind the call as it read before'; 0 by the template 'total and deterministic' (their statements: YthjafigloabfpaaTotals.lean).
  GIVEN WITH THE SEED: the statements are not yours to turn. If you find one false, say at which input.
  Laid BY PROGRAM, IN A SANDBOX (cutbox-rows.mjs): the forced cells as the released guide's own fill.sh prints them over the translation a015c60350d59ea9… (all of the seat's roots in one cut). By AI agents, Wed Nov 11 2026. No macro, syntax, notation, axiom, sorry.
-/
import Derived.Test.YthjafigloabfpaaChecked
import GoSem.Claim
import GoSem.ClaimJoined
import GoSem.ClaimMapViews
import Derived.JoinedTies
import Derived.KernelRfl
namespace Go.Proofs.Ythjafigloabfpaa
/- THE CELL 'sum', in the pinned program and in every row, IS THE sha256 OF THE DUMP (.gsa) THAT YthjafigloabfpaaProg.lean LOADS. Nothing in Lean hashes anything: it is a label: what it is worth is what the hold of that sum in a sandbox is worth. -/
noncomputable def Try.pinned : Pinned := { name := "ythjafigloabfpaa", sum := "a015c60350d59ea963d8e1bf56d96e9fe26868f049d37211939afecc704a63ad", checked := Try.checked }
namespace Rows
def none {H : Type} : Left H := { results := [], args := [] }

/-- 'kingpinlaw01.FrameBads': WHATEVER THE INPUT: true; the input reads as it did. -/
def frameBadsSpec : ChangeSpec := { name := "frameBads", fn := fun _ => fun
  | [d1, d2] => { results := [.lit (.bool true)], args := [d1, d2] }
  | _ => none }
def frameBadsRow : OpenClaim := { program := "ythjafigloabfpaa", sum := "a015c60350d59ea963d8e1bf56d96e9fe26868f049d37211939afecc704a63ad", func := "kingpin/kingpinlaw01.FrameBads", spec := "frameBads", unfollowed := true, recurses := true, plainKeys := false, apart := false }
def FrameBadsSaid : Prop := frameBadsRow.holds Try.pinned (OpenSpec.ofChange frameBadsSpec)

/-- ITS FALSE NEIGHBOUR: 'it returns false'. Refute it at one input. -/
def frameBadsWrong : ChangeSpec := { name := "frameBads", fn := fun _ => fun
  | [d1, d2] => { results := [.lit (.bool false)], args := [d1, d2] }
  | _ => none }
def FrameBadsWrongFalsely : Prop := frameBadsRow.holds Try.pinned (OpenSpec.ofChange frameBadsWrong)

/-- 'kingpinlaw01.FrameReads': WHATEVER THE INPUT: true; the input reads as it did. -/
def frameReadsSpec : ChangeSpec := { name := "frameReads", fn := fun _ => fun
  | [d1, d2] => { results := [.lit (.bool true)], args := [d1, d2] }
  | _ => none }
def frameReadsRow : OpenClaim := { program := "ythjafigloabfpaa", sum := "a015c60350d59ea963d8e1bf56d96e9fe26868f049d37211939afecc704a63ad", func := "kingpin/kingpinlaw01.FrameReads", spec := "frameReads", unfollowed := true, recurses := true, plainKeys := false, apart := false }
def FrameReadsSaid : Prop := frameReadsRow.holds Try.pinned (OpenSpec.ofChange frameReadsSpec)

/-- ITS FALSE NEIGHBOUR: 'it returns false'. Refute it at one input. -/
def frameReadsWrong : ChangeSpec := { name := "frameReads", fn := fun _ => fun
  | [d1, d2] => { results := [.lit (.bool false)], args := [d1, d2] }
  | _ => none }
def FrameReadsWrongFalsely : Prop := frameReadsRow.holds Try.pinned (OpenSpec.ofChange frameReadsWrong)

/-- 'kingpinlaw01.FrameSpans': WHATEVER THE INPUT: true; the input reads as it did. -/
def frameSpansSpec : ChangeSpec := { name := "frameSpans", fn := fun _ => fun
  | [d1, d2] => { results := [.lit (.bool true)], args := [d1, d2] }
  | _ => none }
def frameSpansRow : OpenClaim := { program := "ythjafigloabfpaa", sum := "a015c60350d59ea963d8e1bf56d96e9fe26868f049d37211939afecc704a63ad", func := "kingpin/kingpinlaw01.FrameSpans", spec := "frameSpans", unfollowed := true, recurses := true, plainKeys := false, apart := false }
def FrameSpansSaid : Prop := frameSpansRow.holds Try.pinned (OpenSpec.ofChange frameSpansSpec)

/-- ITS FALSE NEIGHBOUR: 'it returns false'. Refute it at one input. -/
def frameSpansWrong : ChangeSpec := { name := "frameSpans", fn := fun _ => fun
  | [d1, d2] => { results := [.lit (.bool false)], args := [d1, d2] }
  | _ => none }
def FrameSpansWrongFalsely : Prop := frameSpansRow.holds Try.pinned (OpenSpec.ofChange frameSpansWrong)

/-- 'kingpinlaw01.FrameShows': WHATEVER THE INPUT: true; the input reads as it did. -/
def frameShowsSpec : ChangeSpec := { name := "frameShows", fn := fun _ => fun
  | [d1, d2, d3] => { results := [.lit (.bool true)], args := [d1, d2, d3] }
  | _ => none }
def frameShowsRow : OpenClaim := { program := "ythjafigloabfpaa", sum := "a015c60350d59ea963d8e1bf56d96e9fe26868f049d37211939afecc704a63ad", func := "kingpin/kingpinlaw01.FrameShows", spec := "frameShows", unfollowed := true, recurses := true, plainKeys := false, apart := false }
def FrameShowsSaid : Prop := frameShowsRow.holds Try.pinned (OpenSpec.ofChange frameShowsSpec)

/-- ITS FALSE NEIGHBOUR: 'it returns false'. Refute it at one input. -/
def frameShowsWrong : ChangeSpec := { name := "frameShows", fn := fun _ => fun
  | [d1, d2, d3] => { results := [.lit (.bool false)], args := [d1, d2, d3] }
  | _ => none }
def FrameShowsWrongFalsely : Prop := frameShowsRow.holds Try.pinned (OpenSpec.ofChange frameShowsWrong)

/-- 'kingpinlaw01.FrameEndings': WHATEVER THE INPUT: true; the input reads as it did. -/
def frameEndingsSpec : ChangeSpec := { name := "frameEndings", fn := fun _ => fun
  | [d1, d2, d3] => { results := [.lit (.bool true)], args := [d1, d2, d3] }
  | _ => none }
def frameEndingsRow : OpenClaim := { program := "ythjafigloabfpaa", sum := "a015c60350d59ea963d8e1bf56d96e9fe26868f049d37211939afecc704a63ad", func := "kingpin/kingpinlaw01.FrameEndings", spec := "frameEndings", unfollowed := true, recurses := true, plainKeys := false, apart := false }
def FrameEndingsSaid : Prop := frameEndingsRow.holds Try.pinned (OpenSpec.ofChange frameEndingsSpec)

/-- ITS FALSE NEIGHBOUR: 'it returns false'. Refute it at one input. -/
def frameEndingsWrong : ChangeSpec := { name := "frameEndings", fn := fun _ => fun
  | [d1, d2, d3] => { results := [.lit (.bool false)], args := [d1, d2, d3] }
  | _ => none }
def FrameEndingsWrongFalsely : Prop := frameEndingsRow.holds Try.pinned (OpenSpec.ofChange frameEndingsWrong)

/-- 'kingpinlaw01.FrameFirst': WHATEVER THE INPUT: true; the input reads as it did. -/
def frameFirstSpec : ChangeSpec := { name := "frameFirst", fn := fun _ => fun
  | [d1, d2] => { results := [.lit (.bool true)], args := [d1, d2] }
  | _ => none }
def frameFirstRow : OpenClaim := { program := "ythjafigloabfpaa", sum := "a015c60350d59ea963d8e1bf56d96e9fe26868f049d37211939afecc704a63ad", func := "kingpin/kingpinlaw01.FrameFirst", spec := "frameFirst", unfollowed := true, recurses := true, plainKeys := false, apart := false }
def FrameFirstSaid : Prop := frameFirstRow.holds Try.pinned (OpenSpec.ofChange frameFirstSpec)

/-- ITS FALSE NEIGHBOUR: 'it returns false'. Refute it at one input. -/
def frameFirstWrong : ChangeSpec := { name := "frameFirst", fn := fun _ => fun
  | [d1, d2] => { results := [.lit (.bool false)], args := [d1, d2] }
  | _ => none }
def FrameFirstWrongFalsely : Prop := frameFirstRow.holds Try.pinned (OpenSpec.ofChange frameFirstWrong)

/-- 'kingpinlaw01.FrameSettled': WHATEVER THE INPUT: true; the input reads as it did. -/
def frameSettledSpec : ChangeSpec := { name := "frameSettled", fn := fun _ => fun
  | [d1, d2, d3] => { results := [.lit (.bool true)], args := [d1, d2, d3] }
  | _ => none }
def frameSettledRow : OpenClaim := { program := "ythjafigloabfpaa", sum := "a015c60350d59ea963d8e1bf56d96e9fe26868f049d37211939afecc704a63ad", func := "kingpin/kingpinlaw01.FrameSettled", spec := "frameSettled", unfollowed := true, recurses := true, plainKeys := false, apart := false }
def FrameSettledSaid : Prop := frameSettledRow.holds Try.pinned (OpenSpec.ofChange frameSettledSpec)

/-- ITS FALSE NEIGHBOUR: 'it returns false'. Refute it at one input. -/
def frameSettledWrong : ChangeSpec := { name := "frameSettled", fn := fun _ => fun
  | [d1, d2, d3] => { results := [.lit (.bool false)], args := [d1, d2, d3] }
  | _ => none }
def FrameSettledWrongFalsely : Prop := frameSettledRow.holds Try.pinned (OpenSpec.ofChange frameSettledWrong)

/-- 'kingpinlaw01.FrameFouls': WHATEVER THE INPUT: true; the input reads as it did. -/
def frameFoulsSpec : ChangeSpec := { name := "frameFouls", fn := fun _ => fun
  | [d1, d2, d3] => { results := [.lit (.bool true)], args := [d1, d2, d3] }
  | _ => none }
def frameFoulsRow : OpenClaim := { program := "ythjafigloabfpaa", sum := "a015c60350d59ea963d8e1bf56d96e9fe26868f049d37211939afecc704a63ad", func := "kingpin/kingpinlaw01.FrameFouls", spec := "frameFouls", unfollowed := true, recurses := true, plainKeys := false, apart := false }
def FrameFoulsSaid : Prop := frameFoulsRow.holds Try.pinned (OpenSpec.ofChange frameFoulsSpec)

/-- ITS FALSE NEIGHBOUR: 'it returns false'. Refute it at one input. -/
def frameFoulsWrong : ChangeSpec := { name := "frameFouls", fn := fun _ => fun
  | [d1, d2, d3] => { results := [.lit (.bool false)], args := [d1, d2, d3] }
  | _ => none }
def FrameFoulsWrongFalsely : Prop := frameFoulsRow.holds Try.pinned (OpenSpec.ofChange frameFoulsWrong)

/-- 'kingpinlaw01.FrameGreatest': WHATEVER THE INPUT: true; the input reads as it did. -/
def frameGreatestSpec : ChangeSpec := { name := "frameGreatest", fn := fun _ => fun
  | [d] => { results := [.lit (.bool true)], args := [d] }
  | _ => none }
def frameGreatestRow : OpenClaim := { program := "ythjafigloabfpaa", sum := "a015c60350d59ea963d8e1bf56d96e9fe26868f049d37211939afecc704a63ad", func := "kingpin/kingpinlaw01.FrameGreatest", spec := "frameGreatest", unfollowed := true, recurses := true, plainKeys := false, apart := false }
def FrameGreatestSaid : Prop := frameGreatestRow.holds Try.pinned (OpenSpec.ofChange frameGreatestSpec)

/-- ITS FALSE NEIGHBOUR: 'it returns false'. Refute it at one input. -/
def frameGreatestWrong : ChangeSpec := { name := "frameGreatest", fn := fun _ => fun
  | [d] => { results := [.lit (.bool false)], args := [d] }
  | _ => none }
def FrameGreatestWrongFalsely : Prop := frameGreatestRow.holds Try.pinned (OpenSpec.ofChange frameGreatestWrong)

/-- 'kingpinlaw01.FrameSpares': WHATEVER THE INPUT: true; the input reads as it did. -/
def frameSparesSpec : ChangeSpec := { name := "frameSpares", fn := fun _ => fun
  | [d1, d2] => { results := [.lit (.bool true)], args := [d1, d2] }
  | _ => none }
def frameSparesRow : OpenClaim := { program := "ythjafigloabfpaa", sum := "a015c60350d59ea963d8e1bf56d96e9fe26868f049d37211939afecc704a63ad", func := "kingpin/kingpinlaw01.FrameSpares", spec := "frameSpares", unfollowed := true, recurses := true, plainKeys := false, apart := false }
def FrameSparesSaid : Prop := frameSparesRow.holds Try.pinned (OpenSpec.ofChange frameSparesSpec)

/-- ITS FALSE NEIGHBOUR: 'it returns false'. Refute it at one input. -/
def frameSparesWrong : ChangeSpec := { name := "frameSpares", fn := fun _ => fun
  | [d1, d2] => { results := [.lit (.bool false)], args := [d1, d2] }
  | _ => none }
def FrameSparesWrongFalsely : Prop := frameSparesRow.holds Try.pinned (OpenSpec.ofChange frameSparesWrong)

/-- 'kingpinlaw01.FrameTaps': WHATEVER THE INPUT: true; the input reads as it did. -/
def frameTapsSpec : ChangeSpec := { name := "frameTaps", fn := fun _ => fun
  | [d1, d2, d3] => { results := [.lit (.bool true)], args := [d1, d2, d3] }
  | _ => none }
def frameTapsRow : OpenClaim := { program := "ythjafigloabfpaa", sum := "a015c60350d59ea963d8e1bf56d96e9fe26868f049d37211939afecc704a63ad", func := "kingpin/kingpinlaw01.FrameTaps", spec := "frameTaps", unfollowed := true, recurses := true, plainKeys := false, apart := false }
def FrameTapsSaid : Prop := frameTapsRow.holds Try.pinned (OpenSpec.ofChange frameTapsSpec)

/-- ITS FALSE NEIGHBOUR: 'it returns false'. Refute it at one input. -/
def frameTapsWrong : ChangeSpec := { name := "frameTaps", fn := fun _ => fun
  | [d1, d2, d3] => { results := [.lit (.bool false)], args := [d1, d2, d3] }
  | _ => none }
def FrameTapsWrongFalsely : Prop := frameTapsRow.holds Try.pinned (OpenSpec.ofChange frameTapsWrong)

/-- 'kingpinlaw01.FrameAheads': WHATEVER THE INPUT: true; the input reads as it did. -/
def frameAheadsSpec : ChangeSpec := { name := "frameAheads", fn := fun _ => fun
  | [d1, d2] => { results := [.lit (.bool true)], args := [d1, d2] }
  | _ => none }
def frameAheadsRow : OpenClaim := { program := "ythjafigloabfpaa", sum := "a015c60350d59ea963d8e1bf56d96e9fe26868f049d37211939afecc704a63ad", func := "kingpin/kingpinlaw01.FrameAheads", spec := "frameAheads", unfollowed := true, recurses := true, plainKeys := false, apart := false }
def FrameAheadsSaid : Prop := frameAheadsRow.holds Try.pinned (OpenSpec.ofChange frameAheadsSpec)

/-- ITS FALSE NEIGHBOUR: 'it returns false'. Refute it at one input. -/
def frameAheadsWrong : ChangeSpec := { name := "frameAheads", fn := fun _ => fun
  | [d1, d2] => { results := [.lit (.bool false)], args := [d1, d2] }
  | _ => none }
def FrameAheadsWrongFalsely : Prop := frameAheadsRow.holds Try.pinned (OpenSpec.ofChange frameAheadsWrong)

/-- 'kingpinlaw01.FrameNames': WHATEVER THE INPUT: true; the input reads as it did. -/
def frameNamesSpec : ChangeSpec := { name := "frameNames", fn := fun _ => fun
  | [] => { results := [.lit (.bool true)], args := [] }
  | _ => none }
def frameNamesRow : OpenClaim := { program := "ythjafigloabfpaa", sum := "a015c60350d59ea963d8e1bf56d96e9fe26868f049d37211939afecc704a63ad", func := "kingpin/kingpinlaw01.FrameNames", spec := "frameNames", unfollowed := true, recurses := true, plainKeys := false, apart := false }
def FrameNamesSaid : Prop := frameNamesRow.holds Try.pinned (OpenSpec.ofChange frameNamesSpec)

/-- ITS FALSE NEIGHBOUR: 'it returns false'. Refute it at one input. -/
def frameNamesWrong : ChangeSpec := { name := "frameNames", fn := fun _ => fun
  | [] => { results := [.lit (.bool false)], args := [] }
  | _ => none }
def FrameNamesWrongFalsely : Prop := frameNamesRow.holds Try.pinned (OpenSpec.ofChange frameNamesWrong)

/-- 'kingpinlaw01.FrameWins': WHATEVER THE INPUT: true; the input reads as it did. -/
def frameWinsSpec : ChangeSpec := { name := "frameWins", fn := fun _ => fun
  | [d1, d2, d3] => { results := [.lit (.bool true)], args := [d1, d2, d3] }
  | _ => none }
def frameWinsRow : OpenClaim := { program := "ythjafigloabfpaa", sum := "a015c60350d59ea963d8e1bf56d96e9fe26868f049d37211939afecc704a63ad", func := "kingpin/kingpinlaw01.FrameWins", spec := "frameWins", unfollowed := true, recurses := true, plainKeys := false, apart := false }
def FrameWinsSaid : Prop := frameWinsRow.holds Try.pinned (OpenSpec.ofChange frameWinsSpec)

/-- ITS FALSE NEIGHBOUR: 'it returns false'. Refute it at one input. -/
def frameWinsWrong : ChangeSpec := { name := "frameWins", fn := fun _ => fun
  | [d1, d2, d3] => { results := [.lit (.bool false)], args := [d1, d2, d3] }
  | _ => none }
def FrameWinsWrongFalsely : Prop := frameWinsRow.holds Try.pinned (OpenSpec.ofChange frameWinsWrong)

/- THE SECOND FORM. 'bulk': how many values and letters a reading holds, each counted each time it is reached (what is shared counts as often as it is met; a slice's spare places count too). A statement '..UptoSaid' is the law's where the arguments, and the package variables that the reading takes, are together of bulk at most 1048576: NARROWER than '..Said'. Prove '..Said' where nothing that the law and all that it calls make is longer than what came in: it says more and counts as full. Else prove '..UptoSaid'. A law counts once. -/
mutual
def uptoBulk {H : Type} : DataW H → Nat
  | .lit (.string bytes) => bytes.length + 1
  | .lit _ => 1
  | .nil => 1
  | .ptr d => uptoBulk d + 1
  | .slice elems spare => uptoBulkAll elems + uptoBulkAll spare + 1
  | .agg parts => uptoBulkAll parts + 1
  | .iface _ d => uptoBulk d + 1
  | .map entries => uptoBulkEntries entries + 1
  | .held _ => 1
def uptoBulkAll {H : Type} : List (DataW H) → Nat
  | [] => 0
  | d :: r => uptoBulk d + uptoBulkAll r
def uptoBulkEntries {H : Type} : List (Lit × DataW H) → Nat
  | [] => 0
  | x :: r => uptoBulkEntry x + uptoBulkEntries r
def uptoBulkEntry {H : Type} : Lit × DataW H → Nat
  | (.string bytes, d) => bytes.length + uptoBulk d + 1
  | (_, d) => uptoBulk d + 1
 end
def uptoSmall : (H : Type) → List (DataW H) → Bool := fun _ ds => decide (uptoBulkAll ds ≤ 1048576)
def OpenSpec.upto (s : _root_.Go.ChangeSpec) : _root_.Go.OpenSpec := { _root_.Go.OpenSpec.ofChange s with cond := some uptoSmall }

/-- 'kingpinlaw01.FrameBads', WHERE WHAT IT READS IS OF BULK AT MOST 1048576: true; the input reads as it did. -/
def frameBadsUptoRow : OpenClaim := { program := "ythjafigloabfpaa", sum := "a015c60350d59ea963d8e1bf56d96e9fe26868f049d37211939afecc704a63ad", func := "kingpin/kingpinlaw01.FrameBads", spec := "frameBads", unfollowed := true, recurses := true, plainKeys := false, apart := false, narrowed := true }
def FrameBadsUptoSaid : Prop := frameBadsUptoRow.holds Try.pinned (OpenSpec.upto frameBadsSpec)

/-- 'kingpinlaw01.FrameReads', WHERE WHAT IT READS IS OF BULK AT MOST 1048576: true; the input reads as it did. -/
def frameReadsUptoRow : OpenClaim := { program := "ythjafigloabfpaa", sum := "a015c60350d59ea963d8e1bf56d96e9fe26868f049d37211939afecc704a63ad", func := "kingpin/kingpinlaw01.FrameReads", spec := "frameReads", unfollowed := true, recurses := true, plainKeys := false, apart := false, narrowed := true }
def FrameReadsUptoSaid : Prop := frameReadsUptoRow.holds Try.pinned (OpenSpec.upto frameReadsSpec)

/-- 'kingpinlaw01.FrameSpans', WHERE WHAT IT READS IS OF BULK AT MOST 1048576: true; the input reads as it did. -/
def frameSpansUptoRow : OpenClaim := { program := "ythjafigloabfpaa", sum := "a015c60350d59ea963d8e1bf56d96e9fe26868f049d37211939afecc704a63ad", func := "kingpin/kingpinlaw01.FrameSpans", spec := "frameSpans", unfollowed := true, recurses := true, plainKeys := false, apart := false, narrowed := true }
def FrameSpansUptoSaid : Prop := frameSpansUptoRow.holds Try.pinned (OpenSpec.upto frameSpansSpec)

/-- 'kingpinlaw01.FrameShows', WHERE WHAT IT READS IS OF BULK AT MOST 1048576: true; the input reads as it did. -/
def frameShowsUptoRow : OpenClaim := { program := "ythjafigloabfpaa", sum := "a015c60350d59ea963d8e1bf56d96e9fe26868f049d37211939afecc704a63ad", func := "kingpin/kingpinlaw01.FrameShows", spec := "frameShows", unfollowed := true, recurses := true, plainKeys := false, apart := false, narrowed := true }
def FrameShowsUptoSaid : Prop := frameShowsUptoRow.holds Try.pinned (OpenSpec.upto frameShowsSpec)

/-- 'kingpinlaw01.FrameEndings', WHERE WHAT IT READS IS OF BULK AT MOST 1048576: true; the input reads as it did. -/
def frameEndingsUptoRow : OpenClaim := { program := "ythjafigloabfpaa", sum := "a015c60350d59ea963d8e1bf56d96e9fe26868f049d37211939afecc704a63ad", func := "kingpin/kingpinlaw01.FrameEndings", spec := "frameEndings", unfollowed := true, recurses := true, plainKeys := false, apart := false, narrowed := true }
def FrameEndingsUptoSaid : Prop := frameEndingsUptoRow.holds Try.pinned (OpenSpec.upto frameEndingsSpec)

/-- 'kingpinlaw01.FrameFirst', WHERE WHAT IT READS IS OF BULK AT MOST 1048576: true; the input reads as it did. -/
def frameFirstUptoRow : OpenClaim := { program := "ythjafigloabfpaa", sum := "a015c60350d59ea963d8e1bf56d96e9fe26868f049d37211939afecc704a63ad", func := "kingpin/kingpinlaw01.FrameFirst", spec := "frameFirst", unfollowed := true, recurses := true, plainKeys := false, apart := false, narrowed := true }
def FrameFirstUptoSaid : Prop := frameFirstUptoRow.holds Try.pinned (OpenSpec.upto frameFirstSpec)

/-- 'kingpinlaw01.FrameSettled', WHERE WHAT IT READS IS OF BULK AT MOST 1048576: true; the input reads as it did. -/
def frameSettledUptoRow : OpenClaim := { program := "ythjafigloabfpaa", sum := "a015c60350d59ea963d8e1bf56d96e9fe26868f049d37211939afecc704a63ad", func := "kingpin/kingpinlaw01.FrameSettled", spec := "frameSettled", unfollowed := true, recurses := true, plainKeys := false, apart := false, narrowed := true }
def FrameSettledUptoSaid : Prop := frameSettledUptoRow.holds Try.pinned (OpenSpec.upto frameSettledSpec)

/-- 'kingpinlaw01.FrameFouls', WHERE WHAT IT READS IS OF BULK AT MOST 1048576: true; the input reads as it did. -/
def frameFoulsUptoRow : OpenClaim := { program := "ythjafigloabfpaa", sum := "a015c60350d59ea963d8e1bf56d96e9fe26868f049d37211939afecc704a63ad", func := "kingpin/kingpinlaw01.FrameFouls", spec := "frameFouls", unfollowed := true, recurses := true, plainKeys := false, apart := false, narrowed := true }
def FrameFoulsUptoSaid : Prop := frameFoulsUptoRow.holds Try.pinned (OpenSpec.upto frameFoulsSpec)

/-- 'kingpinlaw01.FrameGreatest', WHERE WHAT IT READS IS OF BULK AT MOST 1048576: true; the input reads as it did. -/
def frameGreatestUptoRow : OpenClaim := { program := "ythjafigloabfpaa", sum := "a015c60350d59ea963d8e1bf56d96e9fe26868f049d37211939afecc704a63ad", func := "kingpin/kingpinlaw01.FrameGreatest", spec := "frameGreatest", unfollowed := true, recurses := true, plainKeys := false, apart := false, narrowed := true }
def FrameGreatestUptoSaid : Prop := frameGreatestUptoRow.holds Try.pinned (OpenSpec.upto frameGreatestSpec)

/-- 'kingpinlaw01.FrameSpares', WHERE WHAT IT READS IS OF BULK AT MOST 1048576: true; the input reads as it did. -/
def frameSparesUptoRow : OpenClaim := { program := "ythjafigloabfpaa", sum := "a015c60350d59ea963d8e1bf56d96e9fe26868f049d37211939afecc704a63ad", func := "kingpin/kingpinlaw01.FrameSpares", spec := "frameSpares", unfollowed := true, recurses := true, plainKeys := false, apart := false, narrowed := true }
def FrameSparesUptoSaid : Prop := frameSparesUptoRow.holds Try.pinned (OpenSpec.upto frameSparesSpec)

/-- 'kingpinlaw01.FrameTaps', WHERE WHAT IT READS IS OF BULK AT MOST 1048576: true; the input reads as it did. -/
def frameTapsUptoRow : OpenClaim := { program := "ythjafigloabfpaa", sum := "a015c60350d59ea963d8e1bf56d96e9fe26868f049d37211939afecc704a63ad", func := "kingpin/kingpinlaw01.FrameTaps", spec := "frameTaps", unfollowed := true, recurses := true, plainKeys := false, apart := false, narrowed := true }
def FrameTapsUptoSaid : Prop := frameTapsUptoRow.holds Try.pinned (OpenSpec.upto frameTapsSpec)

/-- 'kingpinlaw01.FrameAheads', WHERE WHAT IT READS IS OF BULK AT MOST 1048576: true; the input reads as it did. -/
def frameAheadsUptoRow : OpenClaim := { program := "ythjafigloabfpaa", sum := "a015c60350d59ea963d8e1bf56d96e9fe26868f049d37211939afecc704a63ad", func := "kingpin/kingpinlaw01.FrameAheads", spec := "frameAheads", unfollowed := true, recurses := true, plainKeys := false, apart := false, narrowed := true }
def FrameAheadsUptoSaid : Prop := frameAheadsUptoRow.holds Try.pinned (OpenSpec.upto frameAheadsSpec)

/-- 'kingpinlaw01.FrameNames', WHERE WHAT IT READS IS OF BULK AT MOST 1048576: true; the input reads as it did. -/
def frameNamesUptoRow : OpenClaim := { program := "ythjafigloabfpaa", sum := "a015c60350d59ea963d8e1bf56d96e9fe26868f049d37211939afecc704a63ad", func := "kingpin/kingpinlaw01.FrameNames", spec := "frameNames", unfollowed := true, recurses := true, plainKeys := false, apart := false, narrowed := true }
def FrameNamesUptoSaid : Prop := frameNamesUptoRow.holds Try.pinned (OpenSpec.upto frameNamesSpec)

/-- 'kingpinlaw01.FrameWins', WHERE WHAT IT READS IS OF BULK AT MOST 1048576: true; the input reads as it did. -/
def frameWinsUptoRow : OpenClaim := { program := "ythjafigloabfpaa", sum := "a015c60350d59ea963d8e1bf56d96e9fe26868f049d37211939afecc704a63ad", func := "kingpin/kingpinlaw01.FrameWins", spec := "frameWins", unfollowed := true, recurses := true, plainKeys := false, apart := false, narrowed := true }
def FrameWinsUptoSaid : Prop := frameWinsUptoRow.holds Try.pinned (OpenSpec.upto frameWinsSpec)

end Rows
end Go.Proofs.Ythjafigloabfpaa
