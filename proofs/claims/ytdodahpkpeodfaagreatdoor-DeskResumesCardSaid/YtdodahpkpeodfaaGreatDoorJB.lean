/-
 Closed facts of the row of DeskResumes.
-/
import Derived.Test.YtdodahpkpeodfaaGreatDoorTie
import Derived.Test.YtdodahpkpeodfaaGreatDoorCards
import Derived.JoinedOf
namespace Go.Proofs.YtdodahpkpeodfaaGreatDoor.deskResumesProof
set_option linter.all false
theorem jf0:(Rows.deskResumesRow.wf (OpenSpec.ofChange Rows.deskResumesSpec))=true:=by kernel_rfl
theorem jf1:(laidOutB Tryz.prog)=true:=by kernel_rfl
theorem jf2:(mapsRowed Tryz.prog)=true:=by kernel_rfl
theorem jf3:(Tryz.f7.params.all (Tryz.prog.readableRec ·))=true:=by kernel_rfl
theorem jf4:(namedTie Tryz.prog Rows.deskResumesRow.named Rows.deskResumesSpec.vars)=true:=by kernel_rfl
theorem jf5:((Rows.deskResumesRow.stops == []))=true:=by kernel_rfl
theorem jf6:((Tryz.prog.stops == []))=true:=by kernel_rfl
theorem jf7:((Rows.deskResumesRow.knobs == []))=true:=by kernel_rfl
theorem jf8:((Tryz.prog.stopKnobs == []))=true:=by kernel_rfl
theorem jf9:((Rows.deskResumesRow.inPlace == Tryz.prog.inPlace 7))=true:=by kernel_rfl
theorem xv:((Rows.deskResumesRow.unfollowed == Tryz.prog.unfollowed 7))=true:=by kernel_rfl
theorem xw:((Rows.deskResumesRow.recurses == Tryz.prog.recurses 7))=true:=by kernel_rfl
theorem xx:((Rows.deskResumesRow.named == Tryz.prog.varsNamed 7))=true:=by kernel_rfl
theorem xy:((Rows.deskResumesRow.maps == (Tryz.f7.params.toList++Rows.deskResumesSpec.plain.varTypes Tryz.prog).any (Tryz.prog.mapsRec ·)))=true:=by kernel_rfl
theorem xz:((Rows.deskResumesRow.ifaces == (Tryz.f7.params.toList++Rows.deskResumesSpec.plain.varTypes Tryz.prog).any (Tryz.prog.ifacesRec ·)))=true:=by kernel_rfl
theorem xA:((Rows.deskResumesRow.mapsOut == Tryz.prog.mapsAmong Tryz.f7.resultTypes.toList))=true:=by kernel_rfl
theorem xB:((Rows.deskResumesRow.loops == (Tryz.f7.params.toList++Rows.deskResumesSpec.plain.varTypes Tryz.prog).any (Tryz.prog.loopsFrom ·)))=true:=by kernel_rfl
theorem xC:((Rows.deskResumesRow.wideKeys == (Tryz.f7.params.toList++Rows.deskResumesSpec.plain.varTypes Tryz.prog++Tryz.f7.resultTypes.toList).any (Tryz.prog.wideKeysFrom ·)))=true:=by kernel_rfl
theorem xD:(Rows.deskResumesSpec.vars.all (Tryz.prog.varReadable ·))=true:=by kernel_rfl
theorem xE:(Tryz.f7.resultTypes.all (fun t=>Tryz.prog.readableRec t&&decide (t<Tryz.prog.types.size)))=true:=by kernel_rfl
theorem xF:((Rows.deskResumesRow.ifacesOut == Tryz.f7.resultTypes.toList.any (Tryz.prog.ifacesRec ·)))=true:=by kernel_rfl
theorem xG:((Rows.deskResumesRow.loopsOut == Tryz.f7.resultTypes.toList.any (Tryz.prog.loopsFrom ·)))=true:=by kernel_rfl
theorem xH:((Rows.deskResumesRow.plainKeys == Tryz.prog.plainKeys))=true:=by kernel_rfl
theorem xI:(Rows.deskResumesRow.shortTexts.isNone)=true:=by kernel_rfl
theorem xJ:(Tryz.prog.stopsHeard)=true:=by kernel_rfl
theorem xK:((Rows.deskResumesRow.kinds == (if Rows.deskResumesRow.domain.isEmpty then [] else Tryz.f7.params.toList.map fun t=>match Tryz.prog.underlying t with | some (.int k)=>some k | _=>none)))=true:=by kernel_rfl
theorem xL:((Rows.deskResumesRow.pinned == Rows.deskResumesRow.pinnedBy))=true:=by kernel_rfl
theorem xM:((Rows.deskResumesRow.veiled == (Tryz.f7.params.toList++Rows.deskResumesSpec.plain.varTypes Tryz.prog++Tryz.f7.resultTypes.toList).any (Tryz.prog.veiledRec ·)))=true:=by kernel_rfl
theorem xN:(Rows.deskResumesRow.veiledFits Tryz.prog Tryz.f7.params.toList (Tryz.f7.params.toList++Rows.deskResumesSpec.plain.varTypes Tryz.prog++Tryz.f7.resultTypes.toList))=true:=by kernel_rfl
theorem kf0:Rows.deskResumesRow.wfByText (OpenSpec.ofChange Rows.deskResumesSpec)=true:=by kernel_rfl
theorem kf2:true=Tryz.prog.looks []:=by kernel_rfl
theorem kf4:Tryz.prog.funcNamed Rows.deskResumesRow.func=some 7:=by kernel_rfl
end Go.Proofs.YtdodahpkpeodfaaGreatDoor.deskResumesProof
