/-
 Closed facts of the row of DeskPlace.
-/
import Derived.Test.YtiaoloodgildeaaGreatDoorTie
import Derived.Test.YtiaoloodgildeaaGreatDoorCards
import Derived.JoinedOf
namespace Go.Proofs.YtiaoloodgildeaaGreatDoor.deskPlaceProof
set_option linter.all false
theorem jf0:(Rows.deskPlaceRow.wf (OpenSpec.ofChange Rows.deskPlaceSpec))=true:=by kernel_rfl
theorem jf1:(laidOutB Tryz.prog)=true:=by kernel_rfl
theorem jf2:(mapsRowed Tryz.prog)=true:=by kernel_rfl
theorem jf3:(Tryz.f17.params.all (Tryz.prog.readableRec ·))=true:=by kernel_rfl
theorem jf4:(namedTie Tryz.prog Rows.deskPlaceRow.named Rows.deskPlaceSpec.vars)=true:=by kernel_rfl
theorem jf5:((Rows.deskPlaceRow.stops == []))=true:=by kernel_rfl
theorem jf6:((Tryz.prog.stops == []))=true:=by kernel_rfl
theorem jf7:((Rows.deskPlaceRow.knobs == []))=true:=by kernel_rfl
theorem jf8:((Tryz.prog.stopKnobs == []))=true:=by kernel_rfl
theorem jf9:((Rows.deskPlaceRow.inPlace == Tryz.prog.inPlace 17))=true:=by kernel_rfl
theorem xv:((Rows.deskPlaceRow.unfollowed == Tryz.prog.unfollowed 17))=true:=by kernel_rfl
theorem xw:((Rows.deskPlaceRow.recurses == Tryz.prog.recurses 17))=true:=by kernel_rfl
theorem xx:((Rows.deskPlaceRow.named == Tryz.prog.varsNamed 17))=true:=by kernel_rfl
theorem xy:((Rows.deskPlaceRow.maps == (Tryz.f17.params.toList++Rows.deskPlaceSpec.plain.varTypes Tryz.prog).any (Tryz.prog.mapsRec ·)))=true:=by kernel_rfl
theorem xz:((Rows.deskPlaceRow.ifaces == (Tryz.f17.params.toList++Rows.deskPlaceSpec.plain.varTypes Tryz.prog).any (Tryz.prog.ifacesRec ·)))=true:=by kernel_rfl
theorem xA:((Rows.deskPlaceRow.mapsOut == Tryz.prog.mapsAmong Tryz.f17.resultTypes.toList))=true:=by kernel_rfl
theorem xB:((Rows.deskPlaceRow.loops == (Tryz.f17.params.toList++Rows.deskPlaceSpec.plain.varTypes Tryz.prog).any (Tryz.prog.loopsFrom ·)))=true:=by kernel_rfl
theorem xC:((Rows.deskPlaceRow.wideKeys == (Tryz.f17.params.toList++Rows.deskPlaceSpec.plain.varTypes Tryz.prog++Tryz.f17.resultTypes.toList).any (Tryz.prog.wideKeysFrom ·)))=true:=by kernel_rfl
theorem xD:(Rows.deskPlaceSpec.vars.all (Tryz.prog.varReadable ·))=true:=by kernel_rfl
theorem xE:(Tryz.f17.resultTypes.all (fun t=>Tryz.prog.readableRec t&&decide (t<Tryz.prog.types.size)))=true:=by kernel_rfl
theorem xF:((Rows.deskPlaceRow.ifacesOut == Tryz.f17.resultTypes.toList.any (Tryz.prog.ifacesRec ·)))=true:=by kernel_rfl
theorem xG:((Rows.deskPlaceRow.loopsOut == Tryz.f17.resultTypes.toList.any (Tryz.prog.loopsFrom ·)))=true:=by kernel_rfl
theorem xH:((Rows.deskPlaceRow.plainKeys == Tryz.prog.plainKeys))=true:=by kernel_rfl
theorem xI:(Rows.deskPlaceRow.shortTexts.isNone)=true:=by kernel_rfl
theorem xJ:(Tryz.prog.stopsHeard)=true:=by kernel_rfl
theorem xK:((Rows.deskPlaceRow.kinds == (if Rows.deskPlaceRow.domain.isEmpty then [] else Tryz.f17.params.toList.map fun t=>match Tryz.prog.underlying t with | some (.int k)=>some k | _=>none)))=true:=by kernel_rfl
theorem xL:((Rows.deskPlaceRow.pinned == Rows.deskPlaceRow.pinnedBy))=true:=by kernel_rfl
theorem xM:((Rows.deskPlaceRow.veiled == (Tryz.f17.params.toList++Rows.deskPlaceSpec.plain.varTypes Tryz.prog++Tryz.f17.resultTypes.toList).any (Tryz.prog.veiledRec ·)))=true:=by kernel_rfl
theorem xN:(Rows.deskPlaceRow.veiledFits Tryz.prog Tryz.f17.params.toList (Tryz.f17.params.toList++Rows.deskPlaceSpec.plain.varTypes Tryz.prog++Tryz.f17.resultTypes.toList))=true:=by kernel_rfl
theorem kf0:Rows.deskPlaceRow.wfByText (OpenSpec.ofChange Rows.deskPlaceSpec)=true:=by kernel_rfl
theorem kf2:true=Tryz.prog.looks []:=by kernel_rfl
theorem kf4:Tryz.prog.funcNamed Rows.deskPlaceRow.func=some 17:=by kernel_rfl
end Go.Proofs.YtiaoloodgildeaaGreatDoor.deskPlaceProof
