/-
 Closed facts of the row of DeskStruck.
-/
import Derived.Test.YtkbeeloccdfomaaGreatDoorTie
import Derived.Test.YtkbeeloccdfomaaGreatDoorCards
import Derived.JoinedOf
namespace Go.Proofs.YtkbeeloccdfomaaGreatDoor.deskStruckProof
set_option linter.all false
theorem jf0:(Rows.deskStruckRow.wf (OpenSpec.ofChange Rows.deskStruckSpec))=true:=by kernel_rfl
theorem jf1:(laidOutB Tryz.prog)=true:=by kernel_rfl
theorem jf2:(mapsRowed Tryz.prog)=true:=by kernel_rfl
theorem jf3:(Tryz.f3.params.all (Tryz.prog.readableRec ·))=true:=by kernel_rfl
theorem jf4:(namedTie Tryz.prog Rows.deskStruckRow.named Rows.deskStruckSpec.vars)=true:=by kernel_rfl
theorem jf5:((Rows.deskStruckRow.stops == []))=true:=by kernel_rfl
theorem jf6:((Tryz.prog.stops == []))=true:=by kernel_rfl
theorem jf7:((Rows.deskStruckRow.knobs == []))=true:=by kernel_rfl
theorem jf8:((Tryz.prog.stopKnobs == []))=true:=by kernel_rfl
theorem jf9:((Rows.deskStruckRow.inPlace == Tryz.prog.inPlace 3))=true:=by kernel_rfl
theorem xv:((Rows.deskStruckRow.unfollowed == Tryz.prog.unfollowed 3))=true:=by kernel_rfl
theorem xw:((Rows.deskStruckRow.recurses == Tryz.prog.recurses 3))=true:=by kernel_rfl
theorem xx:((Rows.deskStruckRow.named == Tryz.prog.varsNamed 3))=true:=by kernel_rfl
theorem xy:((Rows.deskStruckRow.maps == (Tryz.f3.params.toList++Rows.deskStruckSpec.plain.varTypes Tryz.prog).any (Tryz.prog.mapsRec ·)))=true:=by kernel_rfl
theorem xz:((Rows.deskStruckRow.ifaces == (Tryz.f3.params.toList++Rows.deskStruckSpec.plain.varTypes Tryz.prog).any (Tryz.prog.ifacesRec ·)))=true:=by kernel_rfl
theorem xA:((Rows.deskStruckRow.mapsOut == Tryz.prog.mapsAmong Tryz.f3.resultTypes.toList))=true:=by kernel_rfl
theorem xB:((Rows.deskStruckRow.loops == (Tryz.f3.params.toList++Rows.deskStruckSpec.plain.varTypes Tryz.prog).any (Tryz.prog.loopsFrom ·)))=true:=by kernel_rfl
theorem xC:((Rows.deskStruckRow.wideKeys == (Tryz.f3.params.toList++Rows.deskStruckSpec.plain.varTypes Tryz.prog++Tryz.f3.resultTypes.toList).any (Tryz.prog.wideKeysFrom ·)))=true:=by kernel_rfl
theorem xD:(Rows.deskStruckSpec.vars.all (Tryz.prog.varReadable ·))=true:=by kernel_rfl
theorem xE:(Tryz.f3.resultTypes.all (fun t=>Tryz.prog.readableRec t&&decide (t<Tryz.prog.types.size)))=true:=by kernel_rfl
theorem xF:((Rows.deskStruckRow.ifacesOut == Tryz.f3.resultTypes.toList.any (Tryz.prog.ifacesRec ·)))=true:=by kernel_rfl
theorem xG:((Rows.deskStruckRow.loopsOut == Tryz.f3.resultTypes.toList.any (Tryz.prog.loopsFrom ·)))=true:=by kernel_rfl
theorem xH:((Rows.deskStruckRow.plainKeys == Tryz.prog.plainKeys))=true:=by kernel_rfl
theorem xI:(Rows.deskStruckRow.shortTexts.isNone)=true:=by kernel_rfl
theorem xJ:(Tryz.prog.stopsHeard)=true:=by kernel_rfl
theorem xK:((Rows.deskStruckRow.kinds == (if Rows.deskStruckRow.domain.isEmpty then [] else Tryz.f3.params.toList.map fun t=>match Tryz.prog.underlying t with | some (.int k)=>some k | _=>none)))=true:=by kernel_rfl
theorem xL:((Rows.deskStruckRow.pinned == Rows.deskStruckRow.pinnedBy))=true:=by kernel_rfl
theorem xM:((Rows.deskStruckRow.veiled == (Tryz.f3.params.toList++Rows.deskStruckSpec.plain.varTypes Tryz.prog++Tryz.f3.resultTypes.toList).any (Tryz.prog.veiledRec ·)))=true:=by kernel_rfl
theorem xN:(Rows.deskStruckRow.veiledFits Tryz.prog Tryz.f3.params.toList (Tryz.f3.params.toList++Rows.deskStruckSpec.plain.varTypes Tryz.prog++Tryz.f3.resultTypes.toList))=true:=by kernel_rfl
theorem kf0:Rows.deskStruckRow.wfByText (OpenSpec.ofChange Rows.deskStruckSpec)=true:=by kernel_rfl
theorem kf2:true=Tryz.prog.looks []:=by kernel_rfl
theorem kf4:Tryz.prog.funcNamed Rows.deskStruckRow.func=some 3:=by kernel_rfl
end Go.Proofs.YtkbeeloccdfomaaGreatDoor.deskStruckProof
