/-
  DERIVED. GIVEN WITH THE SEED: THE CARDS: each row of YtiaoloodgildeaaGreatDoorRows.lean that lists a variable, with what it lists TIED to the program's text (the seventh form; the later family's looks); each row that meets fmt, with fmt's text TOLD by the authors' own Lean function (tested against real Go, not proved from fmt's source: count such statements apart). THE CARD IS WHAT COUNTS. Prove the row's statement (the work); the ties are given (YtiaoloodgildeaaGreatDoorTie.lean); close each card by the builder's one call (the guide's Derived/Test/ToyasCard.lean, 'card_holds'). Laid BY PROGRAM, IN A SANDBOX (cutbox-door.mjs). By AI agents, Wed Nov 11 2026. No macro, syntax, notation, axiom, sorry.
-/
import Derived.Test.YtiaoloodgildeaaGreatDoorRows
import GoSem.ClaimSeven
namespace Go.Proofs.YtiaoloodgildeaaGreatDoor
namespace Rows

/-- THE TIED CARD OF 'kingpinlaw12.DeskPlays'. -/
def deskPlaysCard : Claim7 := { stood := { row := deskPlaysRow, standIns := [], harness := (true, "8e02db1a5c14be975b12eb7b4e57e9b9ff87c1ffbb3c04d574c48ccb077acf77"), looks := true }, kinds := [], alts := [], laidByText := true, laidKinds := [.data, .data, .data, .data, .sentinel, .sentinel, .pinned], laidTests := true, laidLooks := .later }
def DeskPlaysCardSaid : Prop := Claim7.holds Tryz.pinned (.plain (OpenSpec.ofChange deskPlaysSpec)) deskPlaysCard

/-- THE TIED CARD OF 'kingpinlaw12.DeskBoards'. -/
def deskBoardsCard : Claim7 := { stood := { row := deskBoardsRow, standIns := [], harness := (true, "8e02db1a5c14be975b12eb7b4e57e9b9ff87c1ffbb3c04d574c48ccb077acf77"), looks := true }, kinds := [], alts := [], laidByText := true, laidKinds := [.data, .data, .data, .data, .sentinel, .sentinel, .pinned], laidTests := true, laidLooks := .later }
def DeskBoardsCardSaid : Prop := Claim7.holds Tryz.pinned (.plain (OpenSpec.ofChange deskBoardsSpec)) deskBoardsCard

/-- THE TIED CARD OF 'kingpinlaw12.DeskWorths'. -/
def deskWorthsCard : Claim7 := { stood := { row := deskWorthsRow, standIns := [], harness := (true, "8e02db1a5c14be975b12eb7b4e57e9b9ff87c1ffbb3c04d574c48ccb077acf77"), looks := true }, kinds := [], alts := [], laidByText := true, laidKinds := [.data, .data, .data, .data, .sentinel, .sentinel, .pinned], laidTests := true, laidLooks := .later }
def DeskWorthsCardSaid : Prop := Claim7.holds Tryz.pinned (.plain (OpenSpec.ofChange deskWorthsSpec)) deskWorthsCard

/-- THE TIED CARD OF 'kingpinlaw12.DeskReports'. -/
def deskReportsCard : Claim7 := { stood := { row := deskReportsRow, standIns := [], harness := (true, "8e02db1a5c14be975b12eb7b4e57e9b9ff87c1ffbb3c04d574c48ccb077acf77"), looks := true }, kinds := [], alts := [], laidByText := true, laidKinds := [.data, .data, .data, .data, .sentinel, .sentinel, .pinned], laidTests := true, laidLooks := .later }
def DeskReportsCardSaid : Prop := Claim7.holds Tryz.pinned (.plain (OpenSpec.ofChange deskReportsSpec)) deskReportsCard

/-- THE TIED CARD OF 'kingpinlaw12.DeskNames'. -/
def deskNamesCard : Claim7 := { stood := { row := deskNamesRow, standIns := [], harness := (true, "8e02db1a5c14be975b12eb7b4e57e9b9ff87c1ffbb3c04d574c48ccb077acf77"), looks := true }, kinds := [], alts := [], laidByText := true, laidKinds := [.data, .data, .data, .data, .sentinel, .sentinel, .pinned], laidTests := true, laidLooks := .later }
def DeskNamesCardSaid : Prop := Claim7.holds Tryz.pinned (.plain (OpenSpec.ofChange deskNamesSpec)) deskNamesCard

/-- THE TIED CARD OF 'kingpinlaw12.DeskReplays'. -/
def deskReplaysCard : Claim7 := { stood := { row := deskReplaysRow, standIns := [], harness := (true, "8e02db1a5c14be975b12eb7b4e57e9b9ff87c1ffbb3c04d574c48ccb077acf77"), looks := true }, kinds := [], alts := [], laidByText := true, laidKinds := [.data, .data, .data, .data, .sentinel, .sentinel, .pinned], laidTests := true, laidLooks := .later }
def DeskReplaysCardSaid : Prop := Claim7.holds Tryz.pinned (.plain (OpenSpec.ofChange deskReplaysSpec)) deskReplaysCard

/-- THE TIED CARD OF 'kingpinlaw12.DeskLanes'. -/
def deskLanesCard : Claim7 := { stood := { row := deskLanesRow, standIns := [], harness := (true, "8e02db1a5c14be975b12eb7b4e57e9b9ff87c1ffbb3c04d574c48ccb077acf77"), looks := true }, kinds := [], alts := [], laidByText := true, laidKinds := [.data, .data, .data, .data, .sentinel, .sentinel, .pinned], laidTests := true, laidLooks := .later }
def DeskLanesCardSaid : Prop := Claim7.holds Tryz.pinned (.plain (OpenSpec.ofChange deskLanesSpec)) deskLanesCard

/-- THE TIED CARD OF 'kingpinlaw12.DeskBack'. -/
def deskBackCard : Claim7 := { stood := { row := deskBackRow, standIns := [], harness := (true, "8e02db1a5c14be975b12eb7b4e57e9b9ff87c1ffbb3c04d574c48ccb077acf77"), looks := true }, kinds := [], alts := [], laidByText := true, laidKinds := [.data, .data, .data, .data, .sentinel, .sentinel, .pinned], laidTests := true, laidLooks := .later }
def DeskBackCardSaid : Prop := Claim7.holds Tryz.pinned (.plain (OpenSpec.ofChange deskBackSpec)) deskBackCard

/-- THE TIED CARD OF 'kingpinlaw12.DeskKept'. -/
def deskKeptCard : Claim7 := { stood := { row := deskKeptRow, standIns := [], harness := (true, "8e02db1a5c14be975b12eb7b4e57e9b9ff87c1ffbb3c04d574c48ccb077acf77"), looks := true }, kinds := [], alts := [], laidByText := true, laidKinds := [.data, .data, .data, .data, .sentinel, .sentinel, .pinned], laidTests := true, laidLooks := .later }
def DeskKeptCardSaid : Prop := Claim7.holds Tryz.pinned (.plain (OpenSpec.ofChange deskKeptSpec)) deskKeptCard

/-- THE TIED CARD OF 'kingpinlaw12.DeskStruck'. -/
def deskStruckCard : Claim7 := { stood := { row := deskStruckRow, standIns := [], harness := (true, "8e02db1a5c14be975b12eb7b4e57e9b9ff87c1ffbb3c04d574c48ccb077acf77"), looks := true }, kinds := [], alts := [], laidByText := true, laidKinds := [.data, .data, .data, .data, .sentinel, .sentinel, .pinned], laidTests := true, laidLooks := .later }
def DeskStruckCardSaid : Prop := Claim7.holds Tryz.pinned (.plain (OpenSpec.ofChange deskStruckSpec)) deskStruckCard

/-- THE TIED CARD OF 'kingpinlaw12.DeskDuels'. -/
def deskDuelsCard : Claim7 := { stood := { row := deskDuelsRow, standIns := [], harness := (true, "8e02db1a5c14be975b12eb7b4e57e9b9ff87c1ffbb3c04d574c48ccb077acf77"), looks := true }, kinds := [], alts := [], laidByText := true, laidKinds := [.data, .data, .data, .data, .sentinel, .sentinel, .pinned], laidTests := true, laidLooks := .later }
def DeskDuelsCardSaid : Prop := Claim7.holds Tryz.pinned (.plain (OpenSpec.ofChange deskDuelsSpec)) deskDuelsCard

/-- THE TIED CARD OF 'kingpinlaw12.DeskAgrees'. -/
def deskAgreesCard : Claim7 := { stood := { row := deskAgreesRow, standIns := [], harness := (true, "8e02db1a5c14be975b12eb7b4e57e9b9ff87c1ffbb3c04d574c48ccb077acf77"), looks := true }, kinds := [], alts := [], laidByText := true, laidKinds := [.data, .data, .data, .data, .sentinel, .sentinel, .pinned], laidTests := true, laidLooks := .later }
def DeskAgreesCardSaid : Prop := Claim7.holds Tryz.pinned (.plain (OpenSpec.ofChange deskAgreesSpec)) deskAgreesCard

/-- THE TIED CARD OF 'kingpinlaw12.DeskWrites'. -/
def deskWritesCard : Claim7 := { stood := { row := deskWritesRow, standIns := [], harness := (true, "8e02db1a5c14be975b12eb7b4e57e9b9ff87c1ffbb3c04d574c48ccb077acf77"), looks := true }, kinds := [], alts := [], laidByText := true, laidKinds := [.data, .data, .data, .data, .sentinel, .sentinel, .pinned], laidTests := true, laidLooks := .later }
def DeskWritesCardSaid : Prop := Claim7.holds Tryz.pinned (.plain (OpenSpec.ofChange deskWritesSpec)) deskWritesCard

/-- THE TIED CARD OF 'kingpinlaw12.DeskStops'. -/
def deskStopsCard : Claim7 := { stood := { row := deskStopsRow, standIns := [], harness := (true, "8e02db1a5c14be975b12eb7b4e57e9b9ff87c1ffbb3c04d574c48ccb077acf77"), looks := true }, kinds := [], alts := [], laidByText := true, laidKinds := [.data, .data, .data, .data, .sentinel, .sentinel, .pinned], laidTests := true, laidLooks := .later }
def DeskStopsCardSaid : Prop := Claim7.holds Tryz.pinned (.plain (OpenSpec.ofChange deskStopsSpec)) deskStopsCard

/-- THE TIED CARD OF 'kingpinlaw12.DeskPlace'. -/
def deskPlaceCard : Claim7 := { stood := { row := deskPlaceRow, standIns := [], harness := (true, "8e02db1a5c14be975b12eb7b4e57e9b9ff87c1ffbb3c04d574c48ccb077acf77"), looks := true }, kinds := [], alts := [], laidByText := true, laidKinds := [.data, .data, .data, .data, .sentinel, .sentinel, .pinned], laidTests := true, laidLooks := .later }
def DeskPlaceCardSaid : Prop := Claim7.holds Tryz.pinned (.plain (OpenSpec.ofChange deskPlaceSpec)) deskPlaceCard

/-- THE TIED CARD OF 'kingpinlaw12.DeskResumes'. -/
def deskResumesCard : Claim7 := { stood := { row := deskResumesRow, standIns := [], harness := (true, "8e02db1a5c14be975b12eb7b4e57e9b9ff87c1ffbb3c04d574c48ccb077acf77"), looks := true }, kinds := [], alts := [], laidByText := true, laidKinds := [.data, .data, .data, .data, .sentinel, .sentinel, .pinned], laidTests := true, laidLooks := .later }
def DeskResumesCardSaid : Prop := Claim7.holds Tryz.pinned (.plain (OpenSpec.ofChange deskResumesSpec)) deskResumesCard

/-- THE TIED CARD OF 'kingpinlaw12.DeskGoesOn'. -/
def deskGoesOnCard : Claim7 := { stood := { row := deskGoesOnRow, standIns := [], harness := (true, "8e02db1a5c14be975b12eb7b4e57e9b9ff87c1ffbb3c04d574c48ccb077acf77"), looks := true }, kinds := [], alts := [], laidByText := true, laidKinds := [.data, .data, .data, .data, .sentinel, .sentinel, .pinned], laidTests := true, laidLooks := .later }
def DeskGoesOnCardSaid : Prop := Claim7.holds Tryz.pinned (.plain (OpenSpec.ofChange deskGoesOnSpec)) deskGoesOnCard

/-- THE SECOND FORM's CARD OF 'kingpinlaw12.DeskPlays'. -/
def deskPlaysUptoCard : Claim7 := { stood := { row := deskPlaysUptoRow, standIns := [], harness := (true, "8e02db1a5c14be975b12eb7b4e57e9b9ff87c1ffbb3c04d574c48ccb077acf77"), looks := true }, kinds := [], alts := [], laidByText := true, laidKinds := [.data, .data, .data, .data, .sentinel, .sentinel, .pinned], laidTests := true, laidLooks := .later }
def DeskPlaysUptoCardSaid : Prop := Claim7.holds Tryz.pinned (.plain (OpenSpec.upto deskPlaysSpec)) deskPlaysUptoCard

/-- THE SECOND FORM's CARD OF 'kingpinlaw12.DeskBoards'. -/
def deskBoardsUptoCard : Claim7 := { stood := { row := deskBoardsUptoRow, standIns := [], harness := (true, "8e02db1a5c14be975b12eb7b4e57e9b9ff87c1ffbb3c04d574c48ccb077acf77"), looks := true }, kinds := [], alts := [], laidByText := true, laidKinds := [.data, .data, .data, .data, .sentinel, .sentinel, .pinned], laidTests := true, laidLooks := .later }
def DeskBoardsUptoCardSaid : Prop := Claim7.holds Tryz.pinned (.plain (OpenSpec.upto deskBoardsSpec)) deskBoardsUptoCard

/-- THE SECOND FORM's CARD OF 'kingpinlaw12.DeskWorths'. -/
def deskWorthsUptoCard : Claim7 := { stood := { row := deskWorthsUptoRow, standIns := [], harness := (true, "8e02db1a5c14be975b12eb7b4e57e9b9ff87c1ffbb3c04d574c48ccb077acf77"), looks := true }, kinds := [], alts := [], laidByText := true, laidKinds := [.data, .data, .data, .data, .sentinel, .sentinel, .pinned], laidTests := true, laidLooks := .later }
def DeskWorthsUptoCardSaid : Prop := Claim7.holds Tryz.pinned (.plain (OpenSpec.upto deskWorthsSpec)) deskWorthsUptoCard

/-- THE SECOND FORM's CARD OF 'kingpinlaw12.DeskReports'. -/
def deskReportsUptoCard : Claim7 := { stood := { row := deskReportsUptoRow, standIns := [], harness := (true, "8e02db1a5c14be975b12eb7b4e57e9b9ff87c1ffbb3c04d574c48ccb077acf77"), looks := true }, kinds := [], alts := [], laidByText := true, laidKinds := [.data, .data, .data, .data, .sentinel, .sentinel, .pinned], laidTests := true, laidLooks := .later }
def DeskReportsUptoCardSaid : Prop := Claim7.holds Tryz.pinned (.plain (OpenSpec.upto deskReportsSpec)) deskReportsUptoCard

/-- THE SECOND FORM's CARD OF 'kingpinlaw12.DeskNames'. -/
def deskNamesUptoCard : Claim7 := { stood := { row := deskNamesUptoRow, standIns := [], harness := (true, "8e02db1a5c14be975b12eb7b4e57e9b9ff87c1ffbb3c04d574c48ccb077acf77"), looks := true }, kinds := [], alts := [], laidByText := true, laidKinds := [.data, .data, .data, .data, .sentinel, .sentinel, .pinned], laidTests := true, laidLooks := .later }
def DeskNamesUptoCardSaid : Prop := Claim7.holds Tryz.pinned (.plain (OpenSpec.upto deskNamesSpec)) deskNamesUptoCard

/-- THE SECOND FORM's CARD OF 'kingpinlaw12.DeskReplays'. -/
def deskReplaysUptoCard : Claim7 := { stood := { row := deskReplaysUptoRow, standIns := [], harness := (true, "8e02db1a5c14be975b12eb7b4e57e9b9ff87c1ffbb3c04d574c48ccb077acf77"), looks := true }, kinds := [], alts := [], laidByText := true, laidKinds := [.data, .data, .data, .data, .sentinel, .sentinel, .pinned], laidTests := true, laidLooks := .later }
def DeskReplaysUptoCardSaid : Prop := Claim7.holds Tryz.pinned (.plain (OpenSpec.upto deskReplaysSpec)) deskReplaysUptoCard

/-- THE SECOND FORM's CARD OF 'kingpinlaw12.DeskLanes'. -/
def deskLanesUptoCard : Claim7 := { stood := { row := deskLanesUptoRow, standIns := [], harness := (true, "8e02db1a5c14be975b12eb7b4e57e9b9ff87c1ffbb3c04d574c48ccb077acf77"), looks := true }, kinds := [], alts := [], laidByText := true, laidKinds := [.data, .data, .data, .data, .sentinel, .sentinel, .pinned], laidTests := true, laidLooks := .later }
def DeskLanesUptoCardSaid : Prop := Claim7.holds Tryz.pinned (.plain (OpenSpec.upto deskLanesSpec)) deskLanesUptoCard

/-- THE SECOND FORM's CARD OF 'kingpinlaw12.DeskBack'. -/
def deskBackUptoCard : Claim7 := { stood := { row := deskBackUptoRow, standIns := [], harness := (true, "8e02db1a5c14be975b12eb7b4e57e9b9ff87c1ffbb3c04d574c48ccb077acf77"), looks := true }, kinds := [], alts := [], laidByText := true, laidKinds := [.data, .data, .data, .data, .sentinel, .sentinel, .pinned], laidTests := true, laidLooks := .later }
def DeskBackUptoCardSaid : Prop := Claim7.holds Tryz.pinned (.plain (OpenSpec.upto deskBackSpec)) deskBackUptoCard

/-- THE SECOND FORM's CARD OF 'kingpinlaw12.DeskKept'. -/
def deskKeptUptoCard : Claim7 := { stood := { row := deskKeptUptoRow, standIns := [], harness := (true, "8e02db1a5c14be975b12eb7b4e57e9b9ff87c1ffbb3c04d574c48ccb077acf77"), looks := true }, kinds := [], alts := [], laidByText := true, laidKinds := [.data, .data, .data, .data, .sentinel, .sentinel, .pinned], laidTests := true, laidLooks := .later }
def DeskKeptUptoCardSaid : Prop := Claim7.holds Tryz.pinned (.plain (OpenSpec.upto deskKeptSpec)) deskKeptUptoCard

/-- THE SECOND FORM's CARD OF 'kingpinlaw12.DeskStruck'. -/
def deskStruckUptoCard : Claim7 := { stood := { row := deskStruckUptoRow, standIns := [], harness := (true, "8e02db1a5c14be975b12eb7b4e57e9b9ff87c1ffbb3c04d574c48ccb077acf77"), looks := true }, kinds := [], alts := [], laidByText := true, laidKinds := [.data, .data, .data, .data, .sentinel, .sentinel, .pinned], laidTests := true, laidLooks := .later }
def DeskStruckUptoCardSaid : Prop := Claim7.holds Tryz.pinned (.plain (OpenSpec.upto deskStruckSpec)) deskStruckUptoCard

/-- THE SECOND FORM's CARD OF 'kingpinlaw12.DeskDuels'. -/
def deskDuelsUptoCard : Claim7 := { stood := { row := deskDuelsUptoRow, standIns := [], harness := (true, "8e02db1a5c14be975b12eb7b4e57e9b9ff87c1ffbb3c04d574c48ccb077acf77"), looks := true }, kinds := [], alts := [], laidByText := true, laidKinds := [.data, .data, .data, .data, .sentinel, .sentinel, .pinned], laidTests := true, laidLooks := .later }
def DeskDuelsUptoCardSaid : Prop := Claim7.holds Tryz.pinned (.plain (OpenSpec.upto deskDuelsSpec)) deskDuelsUptoCard

/-- THE SECOND FORM's CARD OF 'kingpinlaw12.DeskAgrees'. -/
def deskAgreesUptoCard : Claim7 := { stood := { row := deskAgreesUptoRow, standIns := [], harness := (true, "8e02db1a5c14be975b12eb7b4e57e9b9ff87c1ffbb3c04d574c48ccb077acf77"), looks := true }, kinds := [], alts := [], laidByText := true, laidKinds := [.data, .data, .data, .data, .sentinel, .sentinel, .pinned], laidTests := true, laidLooks := .later }
def DeskAgreesUptoCardSaid : Prop := Claim7.holds Tryz.pinned (.plain (OpenSpec.upto deskAgreesSpec)) deskAgreesUptoCard

/-- THE SECOND FORM's CARD OF 'kingpinlaw12.DeskWrites'. -/
def deskWritesUptoCard : Claim7 := { stood := { row := deskWritesUptoRow, standIns := [], harness := (true, "8e02db1a5c14be975b12eb7b4e57e9b9ff87c1ffbb3c04d574c48ccb077acf77"), looks := true }, kinds := [], alts := [], laidByText := true, laidKinds := [.data, .data, .data, .data, .sentinel, .sentinel, .pinned], laidTests := true, laidLooks := .later }
def DeskWritesUptoCardSaid : Prop := Claim7.holds Tryz.pinned (.plain (OpenSpec.upto deskWritesSpec)) deskWritesUptoCard

/-- THE SECOND FORM's CARD OF 'kingpinlaw12.DeskStops'. -/
def deskStopsUptoCard : Claim7 := { stood := { row := deskStopsUptoRow, standIns := [], harness := (true, "8e02db1a5c14be975b12eb7b4e57e9b9ff87c1ffbb3c04d574c48ccb077acf77"), looks := true }, kinds := [], alts := [], laidByText := true, laidKinds := [.data, .data, .data, .data, .sentinel, .sentinel, .pinned], laidTests := true, laidLooks := .later }
def DeskStopsUptoCardSaid : Prop := Claim7.holds Tryz.pinned (.plain (OpenSpec.upto deskStopsSpec)) deskStopsUptoCard

/-- THE SECOND FORM's CARD OF 'kingpinlaw12.DeskPlace'. -/
def deskPlaceUptoCard : Claim7 := { stood := { row := deskPlaceUptoRow, standIns := [], harness := (true, "8e02db1a5c14be975b12eb7b4e57e9b9ff87c1ffbb3c04d574c48ccb077acf77"), looks := true }, kinds := [], alts := [], laidByText := true, laidKinds := [.data, .data, .data, .data, .sentinel, .sentinel, .pinned], laidTests := true, laidLooks := .later }
def DeskPlaceUptoCardSaid : Prop := Claim7.holds Tryz.pinned (.plain (OpenSpec.upto deskPlaceSpec)) deskPlaceUptoCard

/-- THE SECOND FORM's CARD OF 'kingpinlaw12.DeskResumes'. -/
def deskResumesUptoCard : Claim7 := { stood := { row := deskResumesUptoRow, standIns := [], harness := (true, "8e02db1a5c14be975b12eb7b4e57e9b9ff87c1ffbb3c04d574c48ccb077acf77"), looks := true }, kinds := [], alts := [], laidByText := true, laidKinds := [.data, .data, .data, .data, .sentinel, .sentinel, .pinned], laidTests := true, laidLooks := .later }
def DeskResumesUptoCardSaid : Prop := Claim7.holds Tryz.pinned (.plain (OpenSpec.upto deskResumesSpec)) deskResumesUptoCard

/-- THE SECOND FORM's CARD OF 'kingpinlaw12.DeskGoesOn'. -/
def deskGoesOnUptoCard : Claim7 := { stood := { row := deskGoesOnUptoRow, standIns := [], harness := (true, "8e02db1a5c14be975b12eb7b4e57e9b9ff87c1ffbb3c04d574c48ccb077acf77"), looks := true }, kinds := [], alts := [], laidByText := true, laidKinds := [.data, .data, .data, .data, .sentinel, .sentinel, .pinned], laidTests := true, laidLooks := .later }
def DeskGoesOnUptoCardSaid : Prop := Claim7.holds Tryz.pinned (.plain (OpenSpec.upto deskGoesOnSpec)) deskGoesOnUptoCard
end Rows
end Go.Proofs.YtiaoloodgildeaaGreatDoor
