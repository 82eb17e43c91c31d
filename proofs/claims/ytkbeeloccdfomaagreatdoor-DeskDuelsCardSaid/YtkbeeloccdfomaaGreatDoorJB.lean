/-
 Closed facts of the row of DeskDuels.
-/
import Derived.Test.YtkbeeloccdfomaaGreatDoorTie
import Derived.Test.YtkbeeloccdfomaaGreatDoorCards
import Derived.JoinedOf
namespace Go.Proofs.YtkbeeloccdfomaaGreatDoor.deskDuelsProof
set_option linter.all false
theorem jf0:(Rows.deskDuelsRow.wf (OpenSpec.ofChange Rows.deskDuelsSpec))=true:=by kernel_rfl
theorem jf1:(laidOutB Tryz.prog)=true:=by kernel_rfl
theorem jf2:(mapsRowed Tryz.prog)=true:=by kernel_rfl
theorem jf3:(Tryz.f4.params.all (Tryz.prog.readableRec ·))=true:=by kernel_rfl
theorem jf4:(namedTie Tryz.prog Rows.deskDuelsRow.named Rows.deskDuelsSpec.vars)=true:=by kernel_rfl
theorem jf5:((Rows.deskDuelsRow.stops == []))=true:=by kernel_rfl
theorem jf6:((Tryz.prog.stops == []))=true:=by kernel_rfl
theorem jf7:((Rows.deskDuelsRow.knobs == []))=true:=by kernel_rfl
theorem jf8:((Tryz.prog.stopKnobs == []))=true:=by kernel_rfl
theorem jf9:((Rows.deskDuelsRow.inPlace == Tryz.prog.inPlace 4))=true:=by kernel_rfl
theorem xv:((Rows.deskDuelsRow.unfollowed == Tryz.prog.unfollowed 4))=true:=by kernel_rfl
theorem xw:((Rows.deskDuelsRow.recurses == Tryz.prog.recurses 4))=true:=by kernel_rfl
theorem xx:((Rows.deskDuelsRow.named == Tryz.prog.varsNamed 4))=true:=by kernel_rfl
theorem xy:((Rows.deskDuelsRow.maps == (Tryz.f4.params.toList++Rows.deskDuelsSpec.plain.varTypes Tryz.prog).any (Tryz.prog.mapsRec ·)))=true:=by kernel_rfl
theorem xz:((Rows.deskDuelsRow.ifaces == (Tryz.f4.params.toList++Rows.deskDuelsSpec.plain.varTypes Tryz.prog).any (Tryz.prog.ifacesRec ·)))=true:=by kernel_rfl
theorem xA:((Rows.deskDuelsRow.mapsOut == Tryz.prog.mapsAmong Tryz.f4.resultTypes.toList))=true:=by kernel_rfl
theorem xB:((Rows.deskDuelsRow.loops == (Tryz.f4.params.toList++Rows.deskDuelsSpec.plain.varTypes Tryz.prog).any (Tryz.prog.loopsFrom ·)))=true:=by kernel_rfl
theorem xC:((Rows.deskDuelsRow.wideKeys == (Tryz.f4.params.toList++Rows.deskDuelsSpec.plain.varTypes Tryz.prog++Tryz.f4.resultTypes.toList).any (Tryz.prog.wideKeysFrom ·)))=true:=by kernel_rfl
theorem xD:(Rows.deskDuelsSpec.vars.all (Tryz.prog.varReadable ·))=true:=by kernel_rfl
theorem xE:(Tryz.f4.resultTypes.all (fun t=>Tryz.prog.readableRec t&&decide (t<Tryz.prog.types.size)))=true:=by kernel_rfl
theorem xF:((Rows.deskDuelsRow.ifacesOut == Tryz.f4.resultTypes.toList.any (Tryz.prog.ifacesRec ·)))=true:=by kernel_rfl
theorem xG:((Rows.deskDuelsRow.loopsOut == Tryz.f4.resultTypes.toList.any (Tryz.prog.loopsFrom ·)))=true:=by kernel_rfl
theorem xH:((Rows.deskDuelsRow.plainKeys == Tryz.prog.plainKeys))=true:=by kernel_rfl
theorem xI:(Rows.deskDuelsRow.shortTexts.isNone)=true:=by kernel_rfl
theorem xJ:(Tryz.prog.stopsHeard)=true:=by kernel_rfl
theorem xK:((Rows.deskDuelsRow.kinds == (if Rows.deskDuelsRow.domain.isEmpty then [] else Tryz.f4.params.toList.map fun t=>match Tryz.prog.underlying t with | some (.int k)=>some k | _=>none)))=true:=by kernel_rfl
theorem xL:((Rows.deskDuelsRow.pinned == Rows.deskDuelsRow.pinnedBy))=true:=by kernel_rfl
theorem xM:((Rows.deskDuelsRow.veiled == (Tryz.f4.params.toList++Rows.deskDuelsSpec.plain.varTypes Tryz.prog++Tryz.f4.resultTypes.toList).any (Tryz.prog.veiledRec ·)))=true:=by kernel_rfl
theorem xN:(Rows.deskDuelsRow.veiledFits Tryz.prog Tryz.f4.params.toList (Tryz.f4.params.toList++Rows.deskDuelsSpec.plain.varTypes Tryz.prog++Tryz.f4.resultTypes.toList))=true:=by kernel_rfl
theorem kf0:Rows.deskDuelsRow.wfByText (OpenSpec.ofChange Rows.deskDuelsSpec)=true:=by kernel_rfl
theorem kf2:true=Tryz.prog.looks []:=by kernel_rfl
theorem kf4:Tryz.prog.funcNamed Rows.deskDuelsRow.func=some 4:=by kernel_rfl
end Go.Proofs.YtkbeeloccdfomaaGreatDoor.deskDuelsProof
