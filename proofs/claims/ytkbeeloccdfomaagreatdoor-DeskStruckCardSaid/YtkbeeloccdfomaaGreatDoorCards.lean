/-
  DERIVED. GIVEN WITH THE SEED: THE CARDS: each row of YtkbeeloccdfomaaGreatDoorRows.lean that lists a variable, with what it lists TIED to the program's text (the seventh form; the later family's looks); each row that meets fmt, with fmt's text TOLD by the authors' own Lean function (tested against real Go, not proved from fmt's source: count such statements apart). THE CARD IS WHAT COUNTS. Prove the row's statement (the work); the ties are given (YtkbeeloccdfomaaGreatDoorTie.lean); close each card by the builder's one call (the guide's Derived/Test/ToyasCard.lean, 'card_holds'). Laid BY PROGRAM, IN A SANDBOX (cutbox-door.mjs). By AI agents, Wed Nov 11 2026. No macro, syntax, notation, axiom, sorry.
-/
import Derived.Test.YtkbeeloccdfomaaGreatDoorRows
import GoSem.ClaimSeven
namespace Go.Proofs.YtkbeeloccdfomaaGreatDoor
namespace Rows

/-- THE TIED CARD OF 'kingpinlaw12.DeskStruck'. -/
def deskStruckCard : Claim7 := { stood := { row := deskStruckRow, standIns := [], harness := (true, "d20534b04adb3fcb54c891d0475c2765e51317efe529813749efe2445bd0a13a"), looks := true }, kinds := [], alts := [], laidByText := true, laidKinds := [.data, .data, .data, .data, .sentinel, .sentinel, .pinned], laidTests := true, laidLooks := .later }
def DeskStruckCardSaid : Prop := Claim7.holds Tryz.pinned (.plain (OpenSpec.ofChange deskStruckSpec)) deskStruckCard

/-- THE TIED CARD OF 'kingpinlaw12.DeskDuels'. -/
def deskDuelsCard : Claim7 := { stood := { row := deskDuelsRow, standIns := [], harness := (true, "d20534b04adb3fcb54c891d0475c2765e51317efe529813749efe2445bd0a13a"), looks := true }, kinds := [], alts := [], laidByText := true, laidKinds := [.data, .data, .data, .data, .sentinel, .sentinel, .pinned], laidTests := true, laidLooks := .later }
def DeskDuelsCardSaid : Prop := Claim7.holds Tryz.pinned (.plain (OpenSpec.ofChange deskDuelsSpec)) deskDuelsCard

/-- THE SECOND FORM's CARD OF 'kingpinlaw12.DeskStruck'. -/
def deskStruckUptoCard : Claim7 := { stood := { row := deskStruckUptoRow, standIns := [], harness := (true, "d20534b04adb3fcb54c891d0475c2765e51317efe529813749efe2445bd0a13a"), looks := true }, kinds := [], alts := [], laidByText := true, laidKinds := [.data, .data, .data, .data, .sentinel, .sentinel, .pinned], laidTests := true, laidLooks := .later }
def DeskStruckUptoCardSaid : Prop := Claim7.holds Tryz.pinned (.plain (OpenSpec.upto deskStruckSpec)) deskStruckUptoCard

/-- THE SECOND FORM's CARD OF 'kingpinlaw12.DeskDuels'. -/
def deskDuelsUptoCard : Claim7 := { stood := { row := deskDuelsUptoRow, standIns := [], harness := (true, "d20534b04adb3fcb54c891d0475c2765e51317efe529813749efe2445bd0a13a"), looks := true }, kinds := [], alts := [], laidByText := true, laidKinds := [.data, .data, .data, .data, .sentinel, .sentinel, .pinned], laidTests := true, laidLooks := .later }
def DeskDuelsUptoCardSaid : Prop := Claim7.holds Tryz.pinned (.plain (OpenSpec.upto deskDuelsSpec)) deskDuelsUptoCard
end Rows
end Go.Proofs.YtkbeeloccdfomaaGreatDoor
