/-
  No cell of these rows narrows 'for every input' (looked for: loops, veiled, ifaces, maps, wideKeys, modest, calm, conditions, laid).
  DERIVED. THE GIVEN ROWS OF THIS SEAT. 14 by the template 'for every input the law returns true; each argument reads behind the call as it read before'; 0 by the template 'total and deterministic' (their statements: YtmencjafjcmbaaaTotals.lean).
  GIVEN WITH THE SEED: the statements are not yours to turn. If you find one false, say at which input.
  Laid BY PROGRAM, IN A SANDBOX (cutbox-rows.mjs): the forced cells as the released guide's own fill.sh prints them over the translation 70da542ab53332ae… (all of the seat's roots in one cut). By AI agents, Wed Nov 11 2026. No macro, syntax, notation, axiom, sorry.
-/
import Derived.Test.YtmencjafjcmbaaaChecked
import GoSem.Claim
import GoSem.ClaimJoined
import GoSem.ClaimMapViews
import Derived.JoinedTies
import Derived.KernelRfl
namespace Go.Proofs.Ytmencjafjcmbaaa
/- THE CELL 'sum', in the pinned program and in every row, IS THE sha256 OF THE DUMP (.gsa) THAT YtmencjafjcmbaaaProg.lean LOADS. Nothing in Lean hashes anything: it is a label: what it is worth is what the hold of that sum in a sandbox is worth. -/
noncomputable def Try.pinned : Pinned := { name := "ytmencjafjcmbaaa", sum := "70da542ab53332aecc675851bf100c8f44d60955220fcf5929ce6242f98ba28e", checked := Try.checked }
namespace Rows
def none {H : Type} : Left H := { results := [], args := [] }

/-- 'kingpinlaw07.RateCounts': WHATEVER THE INPUT: true; the input reads as it did. -/
def rateCountsSpec : ChangeSpec := { name := "rateCounts", fn := fun _ => fun
  | [d] => { results := [.lit (.bool true)], args := [d] }
  | _ => none }
def rateCountsRow : OpenClaim := { program := "ytmencjafjcmbaaa", sum := "70da542ab53332aecc675851bf100c8f44d60955220fcf5929ce6242f98ba28e", func := "kingpin/kingpinlaw07.RateCounts", spec := "rateCounts", unfollowed := true, recurses := true, plainKeys := false, apart := false }
def RateCountsSaid : Prop := rateCountsRow.holds Try.pinned (OpenSpec.ofChange rateCountsSpec)

/-- ITS FALSE NEIGHBOUR: 'it returns false'. Refute it at one input. -/
def rateCountsWrong : ChangeSpec := { name := "rateCounts", fn := fun _ => fun
  | [d] => { results := [.lit (.bool false)], args := [d] }
  | _ => none }
def RateCountsWrongFalsely : Prop := rateCountsRow.holds Try.pinned (OpenSpec.ofChange rateCountsWrong)

/-- 'kingpinlaw07.RateAverages': WHATEVER THE INPUT: true; the input reads as it did. -/
def rateAveragesSpec : ChangeSpec := { name := "rateAverages", fn := fun _ => fun
  | [d1, d2, d3] => { results := [.lit (.bool true)], args := [d1, d2, d3] }
  | _ => none }
def rateAveragesRow : OpenClaim := { program := "ytmencjafjcmbaaa", sum := "70da542ab53332aecc675851bf100c8f44d60955220fcf5929ce6242f98ba28e", func := "kingpin/kingpinlaw07.RateAverages", spec := "rateAverages", unfollowed := true, recurses := true, plainKeys := false, apart := false }
def RateAveragesSaid : Prop := rateAveragesRow.holds Try.pinned (OpenSpec.ofChange rateAveragesSpec)

/-- ITS FALSE NEIGHBOUR: 'it returns false'. Refute it at one input. -/
def rateAveragesWrong : ChangeSpec := { name := "rateAverages", fn := fun _ => fun
  | [d1, d2, d3] => { results := [.lit (.bool false)], args := [d1, d2, d3] }
  | _ => none }
def RateAveragesWrongFalsely : Prop := rateAveragesRow.holds Try.pinned (OpenSpec.ofChange rateAveragesWrong)

/-- 'kingpinlaw07.RateHandicaps': WHATEVER THE INPUT: true; the input reads as it did. -/
def rateHandicapsSpec : ChangeSpec := { name := "rateHandicaps", fn := fun _ => fun
  | [d1, d2, d3] => { results := [.lit (.bool true)], args := [d1, d2, d3] }
  | _ => none }
def rateHandicapsRow : OpenClaim := { program := "ytmencjafjcmbaaa", sum := "70da542ab53332aecc675851bf100c8f44d60955220fcf5929ce6242f98ba28e", func := "kingpin/kingpinlaw07.RateHandicaps", spec := "rateHandicaps", unfollowed := true, recurses := true, plainKeys := false, apart := false }
def RateHandicapsSaid : Prop := rateHandicapsRow.holds Try.pinned (OpenSpec.ofChange rateHandicapsSpec)

/-- ITS FALSE NEIGHBOUR: 'it returns false'. Refute it at one input. -/
def rateHandicapsWrong : ChangeSpec := { name := "rateHandicaps", fn := fun _ => fun
  | [d1, d2, d3] => { results := [.lit (.bool false)], args := [d1, d2, d3] }
  | _ => none }
def RateHandicapsWrongFalsely : Prop := rateHandicapsRow.holds Try.pinned (OpenSpec.ofChange rateHandicapsWrong)

/-- 'kingpinlaw07.RateMatches': WHATEVER THE INPUT: true; the input reads as it did. -/
def rateMatchesSpec : ChangeSpec := { name := "rateMatches", fn := fun _ => fun
  | [d1, d2, d3, d4] => { results := [.lit (.bool true)], args := [d1, d2, d3, d4] }
  | _ => none }
def rateMatchesRow : OpenClaim := { program := "ytmencjafjcmbaaa", sum := "70da542ab53332aecc675851bf100c8f44d60955220fcf5929ce6242f98ba28e", func := "kingpin/kingpinlaw07.RateMatches", spec := "rateMatches", unfollowed := true, recurses := true, plainKeys := false, apart := false }
def RateMatchesSaid : Prop := rateMatchesRow.holds Try.pinned (OpenSpec.ofChange rateMatchesSpec)

/-- ITS FALSE NEIGHBOUR: 'it returns false'. Refute it at one input. -/
def rateMatchesWrong : ChangeSpec := { name := "rateMatches", fn := fun _ => fun
  | [d1, d2, d3, d4] => { results := [.lit (.bool false)], args := [d1, d2, d3, d4] }
  | _ => none }
def RateMatchesWrongFalsely : Prop := rateMatchesRow.holds Try.pinned (OpenSpec.ofChange rateMatchesWrong)

/-- 'kingpinlaw07.RateSpans': WHATEVER THE INPUT: true; the input reads as it did. -/
def rateSpansSpec : ChangeSpec := { name := "rateSpans", fn := fun _ => fun
  | [d1, d2, d3, d4] => { results := [.lit (.bool true)], args := [d1, d2, d3, d4] }
  | _ => none }
def rateSpansRow : OpenClaim := { program := "ytmencjafjcmbaaa", sum := "70da542ab53332aecc675851bf100c8f44d60955220fcf5929ce6242f98ba28e", func := "kingpin/kingpinlaw07.RateSpans", spec := "rateSpans", unfollowed := true, recurses := true, plainKeys := false, apart := false }
def RateSpansSaid : Prop := rateSpansRow.holds Try.pinned (OpenSpec.ofChange rateSpansSpec)

/-- ITS FALSE NEIGHBOUR: 'it returns false'. Refute it at one input. -/
def rateSpansWrong : ChangeSpec := { name := "rateSpans", fn := fun _ => fun
  | [d1, d2, d3, d4] => { results := [.lit (.bool false)], args := [d1, d2, d3, d4] }
  | _ => none }
def RateSpansWrongFalsely : Prop := rateSpansRow.holds Try.pinned (OpenSpec.ofChange rateSpansWrong)

/-- 'kingpinlaw07.RateNames': WHATEVER THE INPUT: true; the input reads as it did. -/
def rateNamesSpec : ChangeSpec := { name := "rateNames", fn := fun _ => fun
  | [] => { results := [.lit (.bool true)], args := [] }
  | _ => none }
def rateNamesRow : OpenClaim := { program := "ytmencjafjcmbaaa", sum := "70da542ab53332aecc675851bf100c8f44d60955220fcf5929ce6242f98ba28e", func := "kingpin/kingpinlaw07.RateNames", spec := "rateNames", unfollowed := true, recurses := true, plainKeys := false, apart := false }
def RateNamesSaid : Prop := rateNamesRow.holds Try.pinned (OpenSpec.ofChange rateNamesSpec)

/-- ITS FALSE NEIGHBOUR: 'it returns false'. Refute it at one input. -/
def rateNamesWrong : ChangeSpec := { name := "rateNames", fn := fun _ => fun
  | [] => { results := [.lit (.bool false)], args := [] }
  | _ => none }
def RateNamesWrongFalsely : Prop := rateNamesRow.holds Try.pinned (OpenSpec.ofChange rateNamesWrong)

/-- 'kingpinlaw07.RateOrder': WHATEVER THE INPUT: true; the input reads as it did. -/
def rateOrderSpec : ChangeSpec := { name := "rateOrder", fn := fun _ => fun
  | [d1, d2, d3, d4] => { results := [.lit (.bool true)], args := [d1, d2, d3, d4] }
  | _ => none }
def rateOrderRow : OpenClaim := { program := "ytmencjafjcmbaaa", sum := "70da542ab53332aecc675851bf100c8f44d60955220fcf5929ce6242f98ba28e", func := "kingpin/kingpinlaw07.RateOrder", spec := "rateOrder", unfollowed := true, recurses := true, plainKeys := false, apart := false }
def RateOrderSaid : Prop := rateOrderRow.holds Try.pinned (OpenSpec.ofChange rateOrderSpec)

/-- ITS FALSE NEIGHBOUR: 'it returns false'. Refute it at one input. -/
def rateOrderWrong : ChangeSpec := { name := "rateOrder", fn := fun _ => fun
  | [d1, d2, d3, d4] => { results := [.lit (.bool false)], args := [d1, d2, d3, d4] }
  | _ => none }
def RateOrderWrongFalsely : Prop := rateOrderRow.holds Try.pinned (OpenSpec.ofChange rateOrderWrong)

/-- 'kingpinlaw07.RateWithdrawn': WHATEVER THE INPUT: true; the input reads as it did. -/
def rateWithdrawnSpec : ChangeSpec := { name := "rateWithdrawn", fn := fun _ => fun
  | [d1, d2, d3] => { results := [.lit (.bool true)], args := [d1, d2, d3] }
  | _ => none }
def rateWithdrawnRow : OpenClaim := { program := "ytmencjafjcmbaaa", sum := "70da542ab53332aecc675851bf100c8f44d60955220fcf5929ce6242f98ba28e", func := "kingpin/kingpinlaw07.RateWithdrawn", spec := "rateWithdrawn", unfollowed := true, recurses := true, plainKeys := false, apart := false }
def RateWithdrawnSaid : Prop := rateWithdrawnRow.holds Try.pinned (OpenSpec.ofChange rateWithdrawnSpec)

/-- ITS FALSE NEIGHBOUR: 'it returns false'. Refute it at one input. -/
def rateWithdrawnWrong : ChangeSpec := { name := "rateWithdrawn", fn := fun _ => fun
  | [d1, d2, d3] => { results := [.lit (.bool false)], args := [d1, d2, d3] }
  | _ => none }
def RateWithdrawnWrongFalsely : Prop := rateWithdrawnRow.holds Try.pinned (OpenSpec.ofChange rateWithdrawnWrong)

/-- 'kingpinlaw07.RateLater': WHATEVER THE INPUT: true; the input reads as it did. -/
def rateLaterSpec : ChangeSpec := { name := "rateLater", fn := fun _ => fun
  | [d1, d2, d3] => { results := [.lit (.bool true)], args := [d1, d2, d3] }
  | _ => none }
def rateLaterRow : OpenClaim := { program := "ytmencjafjcmbaaa", sum := "70da542ab53332aecc675851bf100c8f44d60955220fcf5929ce6242f98ba28e", func := "kingpin/kingpinlaw07.RateLater", spec := "rateLater", unfollowed := true, recurses := true, plainKeys := false, apart := false }
def RateLaterSaid : Prop := rateLaterRow.holds Try.pinned (OpenSpec.ofChange rateLaterSpec)

/-- ITS FALSE NEIGHBOUR: 'it returns false'. Refute it at one input. -/
def rateLaterWrong : ChangeSpec := { name := "rateLater", fn := fun _ => fun
  | [d1, d2, d3] => { results := [.lit (.bool false)], args := [d1, d2, d3] }
  | _ => none }
def RateLaterWrongFalsely : Prop := rateLaterRow.holds Try.pinned (OpenSpec.ofChange rateLaterWrong)

/-- 'kingpinlaw07.RateBounds': WHATEVER THE INPUT: true; the input reads as it did. -/
def rateBoundsSpec : ChangeSpec := { name := "rateBounds", fn := fun _ => fun
  | [d1, d2] => { results := [.lit (.bool true)], args := [d1, d2] }
  | _ => none }
def rateBoundsRow : OpenClaim := { program := "ytmencjafjcmbaaa", sum := "70da542ab53332aecc675851bf100c8f44d60955220fcf5929ce6242f98ba28e", func := "kingpin/kingpinlaw07.RateBounds", spec := "rateBounds", unfollowed := true, recurses := true, plainKeys := false, apart := false }
def RateBoundsSaid : Prop := rateBoundsRow.holds Try.pinned (OpenSpec.ofChange rateBoundsSpec)

/-- ITS FALSE NEIGHBOUR: 'it returns false'. Refute it at one input. -/
def rateBoundsWrong : ChangeSpec := { name := "rateBounds", fn := fun _ => fun
  | [d1, d2] => { results := [.lit (.bool false)], args := [d1, d2] }
  | _ => none }
def RateBoundsWrongFalsely : Prop := rateBoundsRow.holds Try.pinned (OpenSpec.ofChange rateBoundsWrong)

/-- 'kingpinlaw07.RateUntold': WHATEVER THE INPUT: true; the input reads as it did. -/
def rateUntoldSpec : ChangeSpec := { name := "rateUntold", fn := fun _ => fun
  | [d1, d2, d3, d4, d5] => { results := [.lit (.bool true)], args := [d1, d2, d3, d4, d5] }
  | _ => none }
def rateUntoldRow : OpenClaim := { program := "ytmencjafjcmbaaa", sum := "70da542ab53332aecc675851bf100c8f44d60955220fcf5929ce6242f98ba28e", func := "kingpin/kingpinlaw07.RateUntold", spec := "rateUntold", unfollowed := true, recurses := true, plainKeys := false, apart := false }
def RateUntoldSaid : Prop := rateUntoldRow.holds Try.pinned (OpenSpec.ofChange rateUntoldSpec)

/-- ITS FALSE NEIGHBOUR: 'it returns false'. Refute it at one input. -/
def rateUntoldWrong : ChangeSpec := { name := "rateUntold", fn := fun _ => fun
  | [d1, d2, d3, d4, d5] => { results := [.lit (.bool false)], args := [d1, d2, d3, d4, d5] }
  | _ => none }
def RateUntoldWrongFalsely : Prop := rateUntoldRow.holds Try.pinned (OpenSpec.ofChange rateUntoldWrong)

/-- 'kingpinlaw07.RatePoints': WHATEVER THE INPUT: true; the input reads as it did. -/
def ratePointsSpec : ChangeSpec := { name := "ratePoints", fn := fun _ => fun
  | [d1, d2, d3, d4] => { results := [.lit (.bool true)], args := [d1, d2, d3, d4] }
  | _ => none }
def ratePointsRow : OpenClaim := { program := "ytmencjafjcmbaaa", sum := "70da542ab53332aecc675851bf100c8f44d60955220fcf5929ce6242f98ba28e", func := "kingpin/kingpinlaw07.RatePoints", spec := "ratePoints", unfollowed := true, recurses := true, plainKeys := false, apart := false }
def RatePointsSaid : Prop := ratePointsRow.holds Try.pinned (OpenSpec.ofChange ratePointsSpec)

/-- ITS FALSE NEIGHBOUR: 'it returns false'. Refute it at one input. -/
def ratePointsWrong : ChangeSpec := { name := "ratePoints", fn := fun _ => fun
  | [d1, d2, d3, d4] => { results := [.lit (.bool false)], args := [d1, d2, d3, d4] }
  | _ => none }
def RatePointsWrongFalsely : Prop := ratePointsRow.holds Try.pinned (OpenSpec.ofChange ratePointsWrong)

/-- 'kingpinlaw07.RateBetter': WHATEVER THE INPUT: true; the input reads as it did. -/
def rateBetterSpec : ChangeSpec := { name := "rateBetter", fn := fun _ => fun
  | [d1, d2, d3, d4, d5] => { results := [.lit (.bool true)], args := [d1, d2, d3, d4, d5] }
  | _ => none }
def rateBetterRow : OpenClaim := { program := "ytmencjafjcmbaaa", sum := "70da542ab53332aecc675851bf100c8f44d60955220fcf5929ce6242f98ba28e", func := "kingpin/kingpinlaw07.RateBetter", spec := "rateBetter", unfollowed := true, recurses := true, plainKeys := false, apart := false }
def RateBetterSaid : Prop := rateBetterRow.holds Try.pinned (OpenSpec.ofChange rateBetterSpec)

/-- ITS FALSE NEIGHBOUR: 'it returns false'. Refute it at one input. -/
def rateBetterWrong : ChangeSpec := { name := "rateBetter", fn := fun _ => fun
  | [d1, d2, d3, d4, d5] => { results := [.lit (.bool false)], args := [d1, d2, d3, d4, d5] }
  | _ => none }
def RateBetterWrongFalsely : Prop := rateBetterRow.holds Try.pinned (OpenSpec.ofChange rateBetterWrong)

/-- 'kingpinlaw07.RateAlike': WHATEVER THE INPUT: true; the input reads as it did. -/
def rateAlikeSpec : ChangeSpec := { name := "rateAlike", fn := fun _ => fun
  | [d1, d2, d3, d4, d5] => { results := [.lit (.bool true)], args := [d1, d2, d3, d4, d5] }
  | _ => none }
def rateAlikeRow : OpenClaim := { program := "ytmencjafjcmbaaa", sum := "70da542ab53332aecc675851bf100c8f44d60955220fcf5929ce6242f98ba28e", func := "kingpin/kingpinlaw07.RateAlike", spec := "rateAlike", unfollowed := true, recurses := true, plainKeys := false, apart := false }
def RateAlikeSaid : Prop := rateAlikeRow.holds Try.pinned (OpenSpec.ofChange rateAlikeSpec)

/-- ITS FALSE NEIGHBOUR: 'it returns false'. Refute it at one input. -/
def rateAlikeWrong : ChangeSpec := { name := "rateAlike", fn := fun _ => fun
  | [d1, d2, d3, d4, d5] => { results := [.lit (.bool false)], args := [d1, d2, d3, d4, d5] }
  | _ => none }
def RateAlikeWrongFalsely : Prop := rateAlikeRow.holds Try.pinned (OpenSpec.ofChange rateAlikeWrong)

/- THE SECOND FORM. 'bulk': how many values and letters a reading holds, each counted each time it is reached (what is shared counts as often as it is met; a slice's spare places count too). A statement '..UptoSaid' is the law's where the arguments, and the package variables that the reading takes, are together of bulk at most 1048576: NARROWER than '..Said'. Prove '..Said' where nothing that the law and all that it calls make is longer than what came in: it says more and counts as full. Else prove '..UptoSaid'. A law counts once. -/
mutual
def uptoBulk {H : Type} : DataW H → Nat
  | .lit (.string bytes) => bytes.length + 1
  | .lit _ => 1
  | .nil => 1
  | .ptr d => uptoBulk d + 1
  | .slice elems spare => uptoBulkAll elems + uptoBulkAll spare + 1
  | .agg parts => uptoBulkAll parts + 1
  | .iface _ d => uptoBulk d + 1
  | .map entries => uptoBulkEntries entries + 1
  | .held _ => 1
def uptoBulkAll {H : Type} : List (DataW H) → Nat
  | [] => 0
  | d :: r => uptoBulk d + uptoBulkAll r
def uptoBulkEntries {H : Type} : List (Lit × DataW H) → Nat
  | [] => 0
  | x :: r => uptoBulkEntry x + uptoBulkEntries r
def uptoBulkEntry {H : Type} : Lit × DataW H → Nat
  | (.string bytes, d) => bytes.length + uptoBulk d + 1
  | (_, d) => uptoBulk d + 1
 end
def uptoSmall : (H : Type) → List (DataW H) → Bool := fun _ ds => decide (uptoBulkAll ds ≤ 1048576)
def OpenSpec.upto (s : _root_.Go.ChangeSpec) : _root_.Go.OpenSpec := { _root_.Go.OpenSpec.ofChange s with cond := some uptoSmall }

/-- 'kingpinlaw07.RateCounts', WHERE WHAT IT READS IS OF BULK AT MOST 1048576: true; the input reads as it did. -/
def rateCountsUptoRow : OpenClaim := { program := "ytmencjafjcmbaaa", sum := "70da542ab53332aecc675851bf100c8f44d60955220fcf5929ce6242f98ba28e", func := "kingpin/kingpinlaw07.RateCounts", spec := "rateCounts", unfollowed := true, recurses := true, plainKeys := false, apart := false, narrowed := true }
def RateCountsUptoSaid : Prop := rateCountsUptoRow.holds Try.pinned (OpenSpec.upto rateCountsSpec)

/-- 'kingpinlaw07.RateAverages', WHERE WHAT IT READS IS OF BULK AT MOST 1048576: true; the input reads as it did. -/
def rateAveragesUptoRow : OpenClaim := { program := "ytmencjafjcmbaaa", sum := "70da542ab53332aecc675851bf100c8f44d60955220fcf5929ce6242f98ba28e", func := "kingpin/kingpinlaw07.RateAverages", spec := "rateAverages", unfollowed := true, recurses := true, plainKeys := false, apart := false, narrowed := true }
def RateAveragesUptoSaid : Prop := rateAveragesUptoRow.holds Try.pinned (OpenSpec.upto rateAveragesSpec)

/-- 'kingpinlaw07.RateHandicaps', WHERE WHAT IT READS IS OF BULK AT MOST 1048576: true; the input reads as it did. -/
def rateHandicapsUptoRow : OpenClaim := { program := "ytmencjafjcmbaaa", sum := "70da542ab53332aecc675851bf100c8f44d60955220fcf5929ce6242f98ba28e", func := "kingpin/kingpinlaw07.RateHandicaps", spec := "rateHandicaps", unfollowed := true, recurses := true, plainKeys := false, apart := false, narrowed := true }
def RateHandicapsUptoSaid : Prop := rateHandicapsUptoRow.holds Try.pinned (OpenSpec.upto rateHandicapsSpec)

/-- 'kingpinlaw07.RateMatches', WHERE WHAT IT READS IS OF BULK AT MOST 1048576: true; the input reads as it did. -/
def rateMatchesUptoRow : OpenClaim := { program := "ytmencjafjcmbaaa", sum := "70da542ab53332aecc675851bf100c8f44d60955220fcf5929ce6242f98ba28e", func := "kingpin/kingpinlaw07.RateMatches", spec := "rateMatches", unfollowed := true, recurses := true, plainKeys := false, apart := false, narrowed := true }
def RateMatchesUptoSaid : Prop := rateMatchesUptoRow.holds Try.pinned (OpenSpec.upto rateMatchesSpec)

/-- 'kingpinlaw07.RateSpans', WHERE WHAT IT READS IS OF BULK AT MOST 1048576: true; the input reads as it did. -/
def rateSpansUptoRow : OpenClaim := { program := "ytmencjafjcmbaaa", sum := "70da542ab53332aecc675851bf100c8f44d60955220fcf5929ce6242f98ba28e", func := "kingpin/kingpinlaw07.RateSpans", spec := "rateSpans", unfollowed := true, recurses := true, plainKeys := false, apart := false, narrowed := true }
def RateSpansUptoSaid : Prop := rateSpansUptoRow.holds Try.pinned (OpenSpec.upto rateSpansSpec)

/-- 'kingpinlaw07.RateNames', WHERE WHAT IT READS IS OF BULK AT MOST 1048576: true; the input reads as it did. -/
def rateNamesUptoRow : OpenClaim := { program := "ytmencjafjcmbaaa", sum := "70da542ab53332aecc675851bf100c8f44d60955220fcf5929ce6242f98ba28e", func := "kingpin/kingpinlaw07.RateNames", spec := "rateNames", unfollowed := true, recurses := true, plainKeys := false, apart := false, narrowed := true }
def RateNamesUptoSaid : Prop := rateNamesUptoRow.holds Try.pinned (OpenSpec.upto rateNamesSpec)

/-- 'kingpinlaw07.RateOrder', WHERE WHAT IT READS IS OF BULK AT MOST 1048576: true; the input reads as it did. -/
def rateOrderUptoRow : OpenClaim := { program := "ytmencjafjcmbaaa", sum := "70da542ab53332aecc675851bf100c8f44d60955220fcf5929ce6242f98ba28e", func := "kingpin/kingpinlaw07.RateOrder", spec := "rateOrder", unfollowed := true, recurses := true, plainKeys := false, apart := false, narrowed := true }
def RateOrderUptoSaid : Prop := rateOrderUptoRow.holds Try.pinned (OpenSpec.upto rateOrderSpec)

/-- 'kingpinlaw07.RateWithdrawn', WHERE WHAT IT READS IS OF BULK AT MOST 1048576: true; the input reads as it did. -/
def rateWithdrawnUptoRow : OpenClaim := { program := "ytmencjafjcmbaaa", sum := "70da542ab53332aecc675851bf100c8f44d60955220fcf5929ce6242f98ba28e", func := "kingpin/kingpinlaw07.RateWithdrawn", spec := "rateWithdrawn", unfollowed := true, recurses := true, plainKeys := false, apart := false, narrowed := true }
def RateWithdrawnUptoSaid : Prop := rateWithdrawnUptoRow.holds Try.pinned (OpenSpec.upto rateWithdrawnSpec)

/-- 'kingpinlaw07.RateLater', WHERE WHAT IT READS IS OF BULK AT MOST 1048576: true; the input reads as it did. -/
def rateLaterUptoRow : OpenClaim := { program := "ytmencjafjcmbaaa", sum := "70da542ab53332aecc675851bf100c8f44d60955220fcf5929ce6242f98ba28e", func := "kingpin/kingpinlaw07.RateLater", spec := "rateLater", unfollowed := true, recurses := true, plainKeys := false, apart := false, narrowed := true }
def RateLaterUptoSaid : Prop := rateLaterUptoRow.holds Try.pinned (OpenSpec.upto rateLaterSpec)

/-- 'kingpinlaw07.RateBounds', WHERE WHAT IT READS IS OF BULK AT MOST 1048576: true; the input reads as it did. -/
def rateBoundsUptoRow : OpenClaim := { program := "ytmencjafjcmbaaa", sum := "70da542ab53332aecc675851bf100c8f44d60955220fcf5929ce6242f98ba28e", func := "kingpin/kingpinlaw07.RateBounds", spec := "rateBounds", unfollowed := true, recurses := true, plainKeys := false, apart := false, narrowed := true }
def RateBoundsUptoSaid : Prop := rateBoundsUptoRow.holds Try.pinned (OpenSpec.upto rateBoundsSpec)

/-- 'kingpinlaw07.RateUntold', WHERE WHAT IT READS IS OF BULK AT MOST 1048576: true; the input reads as it did. -/
def rateUntoldUptoRow : OpenClaim := { program := "ytmencjafjcmbaaa", sum := "70da542ab53332aecc675851bf100c8f44d60955220fcf5929ce6242f98ba28e", func := "kingpin/kingpinlaw07.RateUntold", spec := "rateUntold", unfollowed := true, recurses := true, plainKeys := false, apart := false, narrowed := true }
def RateUntoldUptoSaid : Prop := rateUntoldUptoRow.holds Try.pinned (OpenSpec.upto rateUntoldSpec)

/-- 'kingpinlaw07.RatePoints', WHERE WHAT IT READS IS OF BULK AT MOST 1048576: true; the input reads as it did. -/
def ratePointsUptoRow : OpenClaim := { program := "ytmencjafjcmbaaa", sum := "70da542ab53332aecc675851bf100c8f44d60955220fcf5929ce6242f98ba28e", func := "kingpin/kingpinlaw07.RatePoints", spec := "ratePoints", unfollowed := true, recurses := true, plainKeys := false, apart := false, narrowed := true }
def RatePointsUptoSaid : Prop := ratePointsUptoRow.holds Try.pinned (OpenSpec.upto ratePointsSpec)

/-- 'kingpinlaw07.RateBetter', WHERE WHAT IT READS IS OF BULK AT MOST 1048576: true; the input reads as it did. -/
def rateBetterUptoRow : OpenClaim := { program := "ytmencjafjcmbaaa", sum := "70da542ab53332aecc675851bf100c8f44d60955220fcf5929ce6242f98ba28e", func := "kingpin/kingpinlaw07.RateBetter", spec := "rateBetter", unfollowed := true, recurses := true, plainKeys := false, apart := false, narrowed := true }
def RateBetterUptoSaid : Prop := rateBetterUptoRow.holds Try.pinned (OpenSpec.upto rateBetterSpec)

/-- 'kingpinlaw07.RateAlike', WHERE WHAT IT READS IS OF BULK AT MOST 1048576: true; the input reads as it did. -/
def rateAlikeUptoRow : OpenClaim := { program := "ytmencjafjcmbaaa", sum := "70da542ab53332aecc675851bf100c8f44d60955220fcf5929ce6242f98ba28e", func := "kingpin/kingpinlaw07.RateAlike", spec := "rateAlike", unfollowed := true, recurses := true, plainKeys := false, apart := false, narrowed := true }
def RateAlikeUptoSaid : Prop := rateAlikeUptoRow.holds Try.pinned (OpenSpec.upto rateAlikeSpec)

end Rows
end Go.Proofs.Ytmencjafjcmbaaa
