/-
 Closed facts of the row of DeskPlays.
-/
import Derived.Test.YtdodahpkpeodfaaGreatDoorTie
import Derived.Test.YtdodahpkpeodfaaGreatDoorCards
import Derived.JoinedOf
namespace Go.Proofs.YtdodahpkpeodfaaGreatDoor.deskPlaysProof
set_option linter.all false
theorem jf0:(Rows.deskPlaysRow.wf (OpenSpec.ofChange Rows.deskPlaysSpec))=true:=by kernel_rfl
theorem jf1:(laidOutB Tryz.prog)=true:=by kernel_rfl
theorem jf2:(mapsRowed Tryz.prog)=true:=by kernel_rfl
theorem jf3:(Tryz.f3.params.all (Tryz.prog.readableRec ·))=true:=by kernel_rfl
theorem jf4:(namedTie Tryz.prog Rows.deskPlaysRow.named Rows.deskPlaysSpec.vars)=true:=by kernel_rfl
theorem jf5:((Rows.deskPlaysRow.stops == []))=true:=by kernel_rfl
theorem jf6:((Tryz.prog.stops == []))=true:=by kernel_rfl
theorem jf7:((Rows.deskPlaysRow.knobs == []))=true:=by kernel_rfl
theorem jf8:((Tryz.prog.stopKnobs == []))=true:=by kernel_rfl
theorem jf9:((Rows.deskPlaysRow.inPlace == Tryz.prog.inPlace 3))=true:=by kernel_rfl
theorem xv:((Rows.deskPlaysRow.unfollowed == Tryz.prog.unfollowed 3))=true:=by kernel_rfl
theorem xw:((Rows.deskPlaysRow.recurses == Tryz.prog.recurses 3))=true:=by kernel_rfl
theorem xx:((Rows.deskPlaysRow.named == Tryz.prog.varsNamed 3))=true:=by kernel_rfl
theorem xy:((Rows.deskPlaysRow.maps == (Tryz.f3.params.toList++Rows.deskPlaysSpec.plain.varTypes Tryz.prog).any (Tryz.prog.mapsRec ·)))=true:=by kernel_rfl
theorem xz:((Rows.deskPlaysRow.ifaces == (Tryz.f3.params.toList++Rows.deskPlaysSpec.plain.varTypes Tryz.prog).any (Tryz.prog.ifacesRec ·)))=true:=by kernel_rfl
theorem xA:((Rows.deskPlaysRow.mapsOut == Tryz.prog.mapsAmong Tryz.f3.resultTypes.toList))=true:=by kernel_rfl
theorem xB:((Rows.deskPlaysRow.loops == (Tryz.f3.params.toList++Rows.deskPlaysSpec.plain.varTypes Tryz.prog).any (Tryz.prog.loopsFrom ·)))=true:=by kernel_rfl
theorem xC:((Rows.deskPlaysRow.wideKeys == (Tryz.f3.params.toList++Rows.deskPlaysSpec.plain.varTypes Tryz.prog++Tryz.f3.resultTypes.toList).any (Tryz.prog.wideKeysFrom ·)))=true:=by kernel_rfl
theorem xD:(Rows.deskPlaysSpec.vars.all (Tryz.prog.varReadable ·))=true:=by kernel_rfl
theorem xE:(Tryz.f3.resultTypes.all (fun t=>Tryz.prog.readableRec t&&decide (t<Tryz.prog.types.size)))=true:=by kernel_rfl
theorem xF:((Rows.deskPlaysRow.ifacesOut == Tryz.f3.resultTypes.toList.any (Tryz.prog.ifacesRec ·)))=true:=by kernel_rfl
theorem xG:((Rows.deskPlaysRow.loopsOut == Tryz.f3.resultTypes.toList.any (Tryz.prog.loopsFrom ·)))=true:=by kernel_rfl
theorem xH:((Rows.deskPlaysRow.plainKeys == Tryz.prog.plainKeys))=true:=by kernel_rfl
theorem xI:(Rows.deskPlaysRow.shortTexts.isNone)=true:=by kernel_rfl
theorem xJ:(Tryz.prog.stopsHeard)=true:=by kernel_rfl
theorem xK:((Rows.deskPlaysRow.kinds == (if Rows.deskPlaysRow.domain.isEmpty then [] else Tryz.f3.params.toList.map fun t=>match Tryz.prog.underlying t with | some (.int k)=>some k | _=>none)))=true:=by kernel_rfl
theorem xL:((Rows.deskPlaysRow.pinned == Rows.deskPlaysRow.pinnedBy))=true:=by kernel_rfl
theorem xM:((Rows.deskPlaysRow.veiled == (Tryz.f3.params.toList++Rows.deskPlaysSpec.plain.varTypes Tryz.prog++Tryz.f3.resultTypes.toList).any (Tryz.prog.veiledRec ·)))=true:=by kernel_rfl
theorem xN:(Rows.deskPlaysRow.veiledFits Tryz.prog Tryz.f3.params.toList (Tryz.f3.params.toList++Rows.deskPlaysSpec.plain.varTypes Tryz.prog++Tryz.f3.resultTypes.toList))=true:=by kernel_rfl
theorem kf0:Rows.deskPlaysRow.wfByText (OpenSpec.ofChange Rows.deskPlaysSpec)=true:=by kernel_rfl
theorem kf2:true=Tryz.prog.looks []:=by kernel_rfl
theorem kf4:Tryz.prog.funcNamed Rows.deskPlaysRow.func=some 3:=by kernel_rfl
end Go.Proofs.YtdodahpkpeodfaaGreatDoor.deskPlaysProof
