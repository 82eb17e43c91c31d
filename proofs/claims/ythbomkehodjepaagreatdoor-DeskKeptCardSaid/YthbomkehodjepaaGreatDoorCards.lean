/-
  DERIVED. GIVEN WITH THE SEED: THE CARDS: each row of YthbomkehodjepaaGreatDoorRows.lean that lists a variable, with what it lists TIED to the program's text (the seventh form; the later family's looks); each row that meets fmt, with fmt's text TOLD by the authors' own Lean function (tested against real Go, not proved from fmt's source: count such statements apart). THE CARD IS WHAT COUNTS. Prove the row's statement (the work); the ties are given (YthbomkehodjepaaGreatDoorTie.lean); close each card by the builder's one call (the guide's Derived/Test/ToyasCard.lean, 'card_holds'). Laid BY PROGRAM, IN A SANDBOX (cutbox-door.mjs). By AI agents, Wed Nov 11 2026. No macro, syntax, notation, axiom, sorry.
-/
import Derived.Test.YthbomkehodjepaaGreatDoorRows
import GoSem.ClaimSeven
namespace Go.Proofs.YthbomkehodjepaaGreatDoor
namespace Rows

/-- THE TIED CARD OF 'kingpinlaw12.DeskKept'. -/
def deskKeptCard : Claim7 := { stood := { row := deskKeptRow, standIns := [], harness := (true, "643ca09192f214a408445d87ccf2d70790a0c733e2e8fe01ecc9b46c63d282c5"), looks := true }, kinds := [], alts := [], laidByText := true, laidKinds := [.data, .data, .data, .data, .sentinel, .sentinel, .pinned], laidTests := true, laidLooks := .later }
def DeskKeptCardSaid : Prop := Claim7.holds Tryz.pinned (.plain (OpenSpec.ofChange deskKeptSpec)) deskKeptCard

/-- THE SECOND FORM's CARD OF 'kingpinlaw12.DeskKept'. -/
def deskKeptUptoCard : Claim7 := { stood := { row := deskKeptUptoRow, standIns := [], harness := (true, "643ca09192f214a408445d87ccf2d70790a0c733e2e8fe01ecc9b46c63d282c5"), looks := true }, kinds := [], alts := [], laidByText := true, laidKinds := [.data, .data, .data, .data, .sentinel, .sentinel, .pinned], laidTests := true, laidLooks := .later }
def DeskKeptUptoCardSaid : Prop := Claim7.holds Tryz.pinned (.plain (OpenSpec.upto deskKeptSpec)) deskKeptUptoCard
end Rows
end Go.Proofs.YthbomkehodjepaaGreatDoor
