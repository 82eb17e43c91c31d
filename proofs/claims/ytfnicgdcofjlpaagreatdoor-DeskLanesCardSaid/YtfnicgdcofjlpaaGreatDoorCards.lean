/-
  DERIVED. GIVEN WITH THE SEED: THE CARDS: each row of YtfnicgdcofjlpaaGreatDoorRows.lean that lists a variable, with what it lists TIED to the program's text (the seventh form; the later family's looks); each row that meets fmt, with fmt's text TOLD by the authors' own Lean function (tested against real Go, not proved from fmt's source: count such statements apart). THE CARD IS WHAT COUNTS. Prove the row's statement (the work); the ties are given (YtfnicgdcofjlpaaGreatDoorTie.lean); close each card by the builder's one call (the guide's Derived/Test/ToyasCard.lean, 'card_holds'). Laid BY PROGRAM, IN A SANDBOX (cutbox-door.mjs). By AI agents, Wed Nov 11 2026. No macro, syntax, notation, axiom, sorry.
-/
import Derived.Test.YtfnicgdcofjlpaaGreatDoorRows
import GoSem.ClaimSeven
namespace Go.Proofs.YtfnicgdcofjlpaaGreatDoor
namespace Rows

/-- THE TIED CARD OF 'kingpinlaw12.DeskLanes'. -/
def deskLanesCard : Claim7 := { stood := { row := deskLanesRow, standIns := [], harness := (true, "c1a53523263281832fa2eabf30942e949a48713335f50ab18821587db54428ca"), looks := true }, kinds := [], alts := [], laidByText := true, laidKinds := [.data, .data, .data, .data, .sentinel, .sentinel, .pinned], laidTests := true, laidLooks := .later }
def DeskLanesCardSaid : Prop := Claim7.holds Tryz.pinned (.plain (OpenSpec.ofChange deskLanesSpec)) deskLanesCard

/-- THE SECOND FORM's CARD OF 'kingpinlaw12.DeskLanes'. -/
def deskLanesUptoCard : Claim7 := { stood := { row := deskLanesUptoRow, standIns := [], harness := (true, "c1a53523263281832fa2eabf30942e949a48713335f50ab18821587db54428ca"), looks := true }, kinds := [], alts := [], laidByText := true, laidKinds := [.data, .data, .data, .data, .sentinel, .sentinel, .pinned], laidTests := true, laidLooks := .later }
def DeskLanesUptoCardSaid : Prop := Claim7.holds Tryz.pinned (.plain (OpenSpec.upto deskLanesSpec)) deskLanesUptoCard
end Rows
end Go.Proofs.YtfnicgdcofjlpaaGreatDoor
