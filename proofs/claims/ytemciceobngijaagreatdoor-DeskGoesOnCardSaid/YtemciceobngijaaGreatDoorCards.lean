/-
  DERIVED. GIVEN WITH THE SEED: THE CARDS: each row of YtemciceobngijaaGreatDoorRows.lean that lists a variable, with what it lists TIED to the program's text (the seventh form; the later family's looks); each row that meets fmt, with fmt's text TOLD by the authors' own Lean function (tested against real Go, not proved from fmt's source: count such statements apart). THE CARD IS WHAT COUNTS. Prove the row's statement (the work); the ties are given (YtemciceobngijaaGreatDoorTie.lean); close each card by the builder's one call (the guide's Derived/Test/ToyasCard.lean, 'card_holds'). Laid BY PROGRAM, IN A SANDBOX (cutbox-door.mjs). By AI agents, Wed Nov 11 2026. No macro, syntax, notation, axiom, sorry.
-/
import Derived.Test.YtemciceobngijaaGreatDoorRows
import GoSem.ClaimSeven
namespace Go.Proofs.YtemciceobngijaaGreatDoor
namespace Rows

/-- THE TIED CARD OF 'kingpinlaw12.DeskAgrees'. -/
def deskAgreesCard : Claim7 := { stood := { row := deskAgreesRow, standIns := [], harness := (true, "8ed9c1c52a5de668558de6259a48a5bba7902749e2b18486a45979581adc8a76"), looks := true }, kinds := [], alts := [], laidByText := true, laidKinds := [.data, .data, .data, .data, .sentinel, .sentinel, .pinned], laidTests := true, laidLooks := .later }
def DeskAgreesCardSaid : Prop := Claim7.holds Tryz.pinned (.plain (OpenSpec.ofChange deskAgreesSpec)) deskAgreesCard

/-- THE TIED CARD OF 'kingpinlaw12.DeskGoesOn'. -/
def deskGoesOnCard : Claim7 := { stood := { row := deskGoesOnRow, standIns := [], harness := (true, "8ed9c1c52a5de668558de6259a48a5bba7902749e2b18486a45979581adc8a76"), looks := true }, kinds := [], alts := [], laidByText := true, laidKinds := [.data, .data, .data, .data, .sentinel, .sentinel, .pinned], laidTests := true, laidLooks := .later }
def DeskGoesOnCardSaid : Prop := Claim7.holds Tryz.pinned (.plain (OpenSpec.ofChange deskGoesOnSpec)) deskGoesOnCard

/-- THE SECOND FORM's CARD OF 'kingpinlaw12.DeskAgrees'. -/
def deskAgreesUptoCard : Claim7 := { stood := { row := deskAgreesUptoRow, standIns := [], harness := (true, "8ed9c1c52a5de668558de6259a48a5bba7902749e2b18486a45979581adc8a76"), looks := true }, kinds := [], alts := [], laidByText := true, laidKinds := [.data, .data, .data, .data, .sentinel, .sentinel, .pinned], laidTests := true, laidLooks := .later }
def DeskAgreesUptoCardSaid : Prop := Claim7.holds Tryz.pinned (.plain (OpenSpec.upto deskAgreesSpec)) deskAgreesUptoCard

/-- THE SECOND FORM's CARD OF 'kingpinlaw12.DeskGoesOn'. -/
def deskGoesOnUptoCard : Claim7 := { stood := { row := deskGoesOnUptoRow, standIns := [], harness := (true, "8ed9c1c52a5de668558de6259a48a5bba7902749e2b18486a45979581adc8a76"), looks := true }, kinds := [], alts := [], laidByText := true, laidKinds := [.data, .data, .data, .data, .sentinel, .sentinel, .pinned], laidTests := true, laidLooks := .later }
def DeskGoesOnUptoCardSaid : Prop := Claim7.holds Tryz.pinned (.plain (OpenSpec.upto deskGoesOnSpec)) deskGoesOnUptoCard
end Rows
end Go.Proofs.YtemciceobngijaaGreatDoor
