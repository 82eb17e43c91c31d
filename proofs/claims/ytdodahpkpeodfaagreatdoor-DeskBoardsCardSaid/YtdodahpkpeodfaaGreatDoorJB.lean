/-
 Closed facts of the row of DeskBoards.
-/
import Derived.Test.YtdodahpkpeodfaaGreatDoorTie
import Derived.Test.YtdodahpkpeodfaaGreatDoorCards
import Derived.JoinedOf
namespace Go.Proofs.YtdodahpkpeodfaaGreatDoor.deskBoardsProof
set_option linter.all false
theorem jf0:(Rows.deskBoardsRow.wf (OpenSpec.ofChange Rows.deskBoardsSpec))=true:=by kernel_rfl
theorem jf1:(laidOutB Tryz.prog)=true:=by kernel_rfl
theorem jf2:(mapsRowed Tryz.prog)=true:=by kernel_rfl
theorem jf3:(Tryz.f4.params.all (Tryz.prog.readableRec ·))=true:=by kernel_rfl
theorem jf4:(namedTie Tryz.prog Rows.deskBoardsRow.named Rows.deskBoardsSpec.vars)=true:=by kernel_rfl
theorem jf5:((Rows.deskBoardsRow.stops == []))=true:=by kernel_rfl
theorem jf6:((Tryz.prog.stops == []))=true:=by kernel_rfl
theorem jf7:((Rows.deskBoardsRow.knobs == []))=true:=by kernel_rfl
theorem jf8:((Tryz.prog.stopKnobs == []))=true:=by kernel_rfl
theorem jf9:((Rows.deskBoardsRow.inPlace == Tryz.prog.inPlace 4))=true:=by kernel_rfl
theorem xv:((Rows.deskBoardsRow.unfollowed == Tryz.prog.unfollowed 4))=true:=by kernel_rfl
theorem xw:((Rows.deskBoardsRow.recurses == Tryz.prog.recurses 4))=true:=by kernel_rfl
theorem xx:((Rows.deskBoardsRow.named == Tryz.prog.varsNamed 4))=true:=by kernel_rfl
theorem xy:((Rows.deskBoardsRow.maps == (Tryz.f4.params.toList++Rows.deskBoardsSpec.plain.varTypes Tryz.prog).any (Tryz.prog.mapsRec ·)))=true:=by kernel_rfl
theorem xz:((Rows.deskBoardsRow.ifaces == (Tryz.f4.params.toList++Rows.deskBoardsSpec.plain.varTypes Tryz.prog).any (Tryz.prog.ifacesRec ·)))=true:=by kernel_rfl
theorem xA:((Rows.deskBoardsRow.mapsOut == Tryz.prog.mapsAmong Tryz.f4.resultTypes.toList))=true:=by kernel_rfl
theorem xB:((Rows.deskBoardsRow.loops == (Tryz.f4.params.toList++Rows.deskBoardsSpec.plain.varTypes Tryz.prog).any (Tryz.prog.loopsFrom ·)))=true:=by kernel_rfl
theorem xC:((Rows.deskBoardsRow.wideKeys == (Tryz.f4.params.toList++Rows.deskBoardsSpec.plain.varTypes Tryz.prog++Tryz.f4.resultTypes.toList).any (Tryz.prog.wideKeysFrom ·)))=true:=by kernel_rfl
theorem xD:(Rows.deskBoardsSpec.vars.all (Tryz.prog.varReadable ·))=true:=by kernel_rfl
theorem xE:(Tryz.f4.resultTypes.all (fun t=>Tryz.prog.readableRec t&&decide (t<Tryz.prog.types.size)))=true:=by kernel_rfl
theorem xF:((Rows.deskBoardsRow.ifacesOut == Tryz.f4.resultTypes.toList.any (Tryz.prog.ifacesRec ·)))=true:=by kernel_rfl
theorem xG:((Rows.deskBoardsRow.loopsOut == Tryz.f4.resultTypes.toList.any (Tryz.prog.loopsFrom ·)))=true:=by kernel_rfl
theorem xH:((Rows.deskBoardsRow.plainKeys == Tryz.prog.plainKeys))=true:=by kernel_rfl
theorem xI:(Rows.deskBoardsRow.shortTexts.isNone)=true:=by kernel_rfl
theorem xJ:(Tryz.prog.stopsHeard)=true:=by kernel_rfl
theorem xK:((Rows.deskBoardsRow.kinds == (if Rows.deskBoardsRow.domain.isEmpty then [] else Tryz.f4.params.toList.map fun t=>match Tryz.prog.underlying t with | some (.int k)=>some k | _=>none)))=true:=by kernel_rfl
theorem xL:((Rows.deskBoardsRow.pinned == Rows.deskBoardsRow.pinnedBy))=true:=by kernel_rfl
theorem xM:((Rows.deskBoardsRow.veiled == (Tryz.f4.params.toList++Rows.deskBoardsSpec.plain.varTypes Tryz.prog++Tryz.f4.resultTypes.toList).any (Tryz.prog.veiledRec ·)))=true:=by kernel_rfl
theorem xN:(Rows.deskBoardsRow.veiledFits Tryz.prog Tryz.f4.params.toList (Tryz.f4.params.toList++Rows.deskBoardsSpec.plain.varTypes Tryz.prog++Tryz.f4.resultTypes.toList))=true:=by kernel_rfl
theorem kf0:Rows.deskBoardsRow.wfByText (OpenSpec.ofChange Rows.deskBoardsSpec)=true:=by kernel_rfl
theorem kf2:true=Tryz.prog.looks []:=by kernel_rfl
theorem kf4:Tryz.prog.funcNamed Rows.deskBoardsRow.func=some 4:=by kernel_rfl
end Go.Proofs.YtdodahpkpeodfaaGreatDoor.deskBoardsProof
