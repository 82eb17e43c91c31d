/-
 Closed facts of the row of DeskStops.
-/
import Derived.Test.YtiaoloodgildeaaGreatDoorTie
import Derived.Test.YtiaoloodgildeaaGreatDoorCards
import Derived.JoinedOf
namespace Go.Proofs.YtiaoloodgildeaaGreatDoor.deskStopsProof
set_option linter.all false
theorem jf0:(Rows.deskStopsRow.wf (OpenSpec.ofChange Rows.deskStopsSpec))=true:=by kernel_rfl
theorem jf1:(laidOutB Tryz.prog)=true:=by kernel_rfl
theorem jf2:(mapsRowed Tryz.prog)=true:=by kernel_rfl
theorem jf3:(Tryz.f16.params.all (Tryz.prog.readableRec ·))=true:=by kernel_rfl
theorem jf4:(namedTie Tryz.prog Rows.deskStopsRow.named Rows.deskStopsSpec.vars)=true:=by kernel_rfl
theorem jf5:((Rows.deskStopsRow.stops == []))=true:=by kernel_rfl
theorem jf6:((Tryz.prog.stops == []))=true:=by kernel_rfl
theorem jf7:((Rows.deskStopsRow.knobs == []))=true:=by kernel_rfl
theorem jf8:((Tryz.prog.stopKnobs == []))=true:=by kernel_rfl
theorem jf9:((Rows.deskStopsRow.inPlace == Tryz.prog.inPlace 16))=true:=by kernel_rfl
theorem xv:((Rows.deskStopsRow.unfollowed == Tryz.prog.unfollowed 16))=true:=by kernel_rfl
theorem xw:((Rows.deskStopsRow.recurses == Tryz.prog.recurses 16))=true:=by kernel_rfl
theorem xx:((Rows.deskStopsRow.named == Tryz.prog.varsNamed 16))=true:=by kernel_rfl
theorem xy:((Rows.deskStopsRow.maps == (Tryz.f16.params.toList++Rows.deskStopsSpec.plain.varTypes Tryz.prog).any (Tryz.prog.mapsRec ·)))=true:=by kernel_rfl
theorem xz:((Rows.deskStopsRow.ifaces == (Tryz.f16.params.toList++Rows.deskStopsSpec.plain.varTypes Tryz.prog).any (Tryz.prog.ifacesRec ·)))=true:=by kernel_rfl
theorem xA:((Rows.deskStopsRow.mapsOut == Tryz.prog.mapsAmong Tryz.f16.resultTypes.toList))=true:=by kernel_rfl
theorem xB:((Rows.deskStopsRow.loops == (Tryz.f16.params.toList++Rows.deskStopsSpec.plain.varTypes Tryz.prog).any (Tryz.prog.loopsFrom ·)))=true:=by kernel_rfl
theorem xC:((Rows.deskStopsRow.wideKeys == (Tryz.f16.params.toList++Rows.deskStopsSpec.plain.varTypes Tryz.prog++Tryz.f16.resultTypes.toList).any (Tryz.prog.wideKeysFrom ·)))=true:=by kernel_rfl
theorem xD:(Rows.deskStopsSpec.vars.all (Tryz.prog.varReadable ·))=true:=by kernel_rfl
theorem xE:(Tryz.f16.resultTypes.all (fun t=>Tryz.prog.readableRec t&&decide (t<Tryz.prog.types.size)))=true:=by kernel_rfl
theorem xF:((Rows.deskStopsRow.ifacesOut == Tryz.f16.resultTypes.toList.any (Tryz.prog.ifacesRec ·)))=true:=by kernel_rfl
theorem xG:((Rows.deskStopsRow.loopsOut == Tryz.f16.resultTypes.toList.any (Tryz.prog.loopsFrom ·)))=true:=by kernel_rfl
theorem xH:((Rows.deskStopsRow.plainKeys == Tryz.prog.plainKeys))=true:=by kernel_rfl
theorem xI:(Rows.deskStopsRow.shortTexts.isNone)=true:=by kernel_rfl
theorem xJ:(Tryz.prog.stopsHeard)=true:=by kernel_rfl
theorem xK:((Rows.deskStopsRow.kinds == (if Rows.deskStopsRow.domain.isEmpty then [] else Tryz.f16.params.toList.map fun t=>match Tryz.prog.underlying t with | some (.int k)=>some k | _=>none)))=true:=by kernel_rfl
theorem xL:((Rows.deskStopsRow.pinned == Rows.deskStopsRow.pinnedBy))=true:=by kernel_rfl
theorem xM:((Rows.deskStopsRow.veiled == (Tryz.f16.params.toList++Rows.deskStopsSpec.plain.varTypes Tryz.prog++Tryz.f16.resultTypes.toList).any (Tryz.prog.veiledRec ·)))=true:=by kernel_rfl
theorem xN:(Rows.deskStopsRow.veiledFits Tryz.prog Tryz.f16.params.toList (Tryz.f16.params.toList++Rows.deskStopsSpec.plain.varTypes Tryz.prog++Tryz.f16.resultTypes.toList))=true:=by kernel_rfl
theorem kf0:Rows.deskStopsRow.wfByText (OpenSpec.ofChange Rows.deskStopsSpec)=true:=by kernel_rfl
theorem kf2:true=Tryz.prog.looks []:=by kernel_rfl
theorem kf4:Tryz.prog.funcNamed Rows.deskStopsRow.func=some 16:=by kernel_rfl
end Go.Proofs.YtiaoloodgildeaaGreatDoor.deskStopsProof
