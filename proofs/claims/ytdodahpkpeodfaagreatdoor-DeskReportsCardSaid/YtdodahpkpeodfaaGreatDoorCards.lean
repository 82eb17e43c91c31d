/-
  DERIVED. GIVEN WITH THE SEED: THE CARDS: each row of YtdodahpkpeodfaaGreatDoorRows.lean that lists a variable, with what it lists TIED to the program's text (the seventh form; the later family's looks); each row that meets fmt, with fmt's text TOLD by the authors' own Lean function (tested against real Go, not proved from fmt's source: count such statements apart). THE CARD IS WHAT COUNTS. Prove the row's statement (the work); the ties are given (YtdodahpkpeodfaaGreatDoorTie.lean); close each card by the builder's one call (the guide's Derived/Test/ToyasCard.lean, 'card_holds'). Laid BY PROGRAM, IN A SANDBOX (cutbox-door.mjs). By AI agents, Wed Nov 11 2026. No macro, syntax, notation, axiom, sorry.
-/
import Derived.Test.YtdodahpkpeodfaaGreatDoorRows
import GoSem.ClaimSeven
namespace Go.Proofs.YtdodahpkpeodfaaGreatDoor
namespace Rows

/-- THE TIED CARD OF 'kingpinlaw12.DeskPlays'. -/
def deskPlaysCard : Claim7 := { stood := { row := deskPlaysRow, standIns := [], harness := (true, "2ffcd3cc8198143c6672cb636acfa665281f2eff72f2669f121eef0aebcdf0ba"), looks := true }, kinds := [], alts := [], laidByText := true, laidKinds := [.data, .data, .data, .data, .sentinel, .sentinel, .pinned], laidTests := true, laidLooks := .later }
def DeskPlaysCardSaid : Prop := Claim7.holds Tryz.pinned (.plain (OpenSpec.ofChange deskPlaysSpec)) deskPlaysCard

/-- THE TIED CARD OF 'kingpinlaw12.DeskBoards'. -/
def deskBoardsCard : Claim7 := { stood := { row := deskBoardsRow, standIns := [], harness := (true, "2ffcd3cc8198143c6672cb636acfa665281f2eff72f2669f121eef0aebcdf0ba"), looks := true }, kinds := [], alts := [], laidByText := true, laidKinds := [.data, .data, .data, .data, .sentinel, .sentinel, .pinned], laidTests := true, laidLooks := .later }
def DeskBoardsCardSaid : Prop := Claim7.holds Tryz.pinned (.plain (OpenSpec.ofChange deskBoardsSpec)) deskBoardsCard

/-- THE TIED CARD OF 'kingpinlaw12.DeskWorths'. -/
def deskWorthsCard : Claim7 := { stood := { row := deskWorthsRow, standIns := [], harness := (true, "2ffcd3cc8198143c6672cb636acfa665281f2eff72f2669f121eef0aebcdf0ba"), looks := true }, kinds := [], alts := [], laidByText := true, laidKinds := [.data, .data, .data, .data, .sentinel, .sentinel, .pinned], laidTests := true, laidLooks := .later }
def DeskWorthsCardSaid : Prop := Claim7.holds Tryz.pinned (.plain (OpenSpec.ofChange deskWorthsSpec)) deskWorthsCard

/-- THE TIED CARD OF 'kingpinlaw12.DeskReports'. -/
def deskReportsCard : Claim7 := { stood := { row := deskReportsRow, standIns := [], harness := (true, "2ffcd3cc8198143c6672cb636acfa665281f2eff72f2669f121eef0aebcdf0ba"), looks := true }, kinds := [], alts := [], laidByText := true, laidKinds := [.data, .data, .data, .data, .sentinel, .sentinel, .pinned], laidTests := true, laidLooks := .later }
def DeskReportsCardSaid : Prop := Claim7.holds Tryz.pinned (.plain (OpenSpec.ofChange deskReportsSpec)) deskReportsCard

/-- THE TIED CARD OF 'kingpinlaw12.DeskResumes'. -/
def deskResumesCard : Claim7 := { stood := { row := deskResumesRow, standIns := [], harness := (true, "2ffcd3cc8198143c6672cb636acfa665281f2eff72f2669f121eef0aebcdf0ba"), looks := true }, kinds := [], alts := [], laidByText := true, laidKinds := [.data, .data, .data, .data, .sentinel, .sentinel, .pinned], laidTests := true, laidLooks := .later }
def DeskResumesCardSaid : Prop := Claim7.holds Tryz.pinned (.plain (OpenSpec.ofChange deskResumesSpec)) deskResumesCard

/-- THE SECOND FORM's CARD OF 'kingpinlaw12.DeskPlays'. -/
def deskPlaysUptoCard : Claim7 := { stood := { row := deskPlaysUptoRow, standIns := [], harness := (true, "2ffcd3cc8198143c6672cb636acfa665281f2eff72f2669f121eef0aebcdf0ba"), looks := true }, kinds := [], alts := [], laidByText := true, laidKinds := [.data, .data, .data, .data, .sentinel, .sentinel, .pinned], laidTests := true, laidLooks := .later }
def DeskPlaysUptoCardSaid : Prop := Claim7.holds Tryz.pinned (.plain (OpenSpec.upto deskPlaysSpec)) deskPlaysUptoCard

/-- THE SECOND FORM's CARD OF 'kingpinlaw12.DeskBoards'. -/
def deskBoardsUptoCard : Claim7 := { stood := { row := deskBoardsUptoRow, standIns := [], harness := (true, "2ffcd3cc8198143c6672cb636acfa665281f2eff72f2669f121eef0aebcdf0ba"), looks := true }, kinds := [], alts := [], laidByText := true, laidKinds := [.data, .data, .data, .data, .sentinel, .sentinel, .pinned], laidTests := true, laidLooks := .later }
def DeskBoardsUptoCardSaid : Prop := Claim7.holds Tryz.pinned (.plain (OpenSpec.upto deskBoardsSpec)) deskBoardsUptoCard

/-- THE SECOND FORM's CARD OF 'kingpinlaw12.DeskWorths'. -/
def deskWorthsUptoCard : Claim7 := { stood := { row := deskWorthsUptoRow, standIns := [], harness := (true, "2ffcd3cc8198143c6672cb636acfa665281f2eff72f2669f121eef0aebcdf0ba"), looks := true }, kinds := [], alts := [], laidByText := true, laidKinds := [.data, .data, .data, .data, .sentinel, .sentinel, .pinned], laidTests := true, laidLooks := .later }
def DeskWorthsUptoCardSaid : Prop := Claim7.holds Tryz.pinned (.plain (OpenSpec.upto deskWorthsSpec)) deskWorthsUptoCard

/-- THE SECOND FORM's CARD OF 'kingpinlaw12.DeskReports'. -/
def deskReportsUptoCard : Claim7 := { stood := { row := deskReportsUptoRow, standIns := [], harness := (true, "2ffcd3cc8198143c6672cb636acfa665281f2eff72f2669f121eef0aebcdf0ba"), looks := true }, kinds := [], alts := [], laidByText := true, laidKinds := [.data, .data, .data, .data, .sentinel, .sentinel, .pinned], laidTests := true, laidLooks := .later }
def DeskReportsUptoCardSaid : Prop := Claim7.holds Tryz.pinned (.plain (OpenSpec.upto deskReportsSpec)) deskReportsUptoCard

/-- THE SECOND FORM's CARD OF 'kingpinlaw12.DeskResumes'. -/
def deskResumesUptoCard : Claim7 := { stood := { row := deskResumesUptoRow, standIns := [], harness := (true, "2ffcd3cc8198143c6672cb636acfa665281f2eff72f2669f121eef0aebcdf0ba"), looks := true }, kinds := [], alts := [], laidByText := true, laidKinds := [.data, .data, .data, .data, .sentinel, .sentinel, .pinned], laidTests := true, laidLooks := .later }
def DeskResumesUptoCardSaid : Prop := Claim7.holds Tryz.pinned (.plain (OpenSpec.upto deskResumesSpec)) deskResumesUptoCard
end Rows
end Go.Proofs.YtdodahpkpeodfaaGreatDoor
