/-
 Closed facts of the row of DeskLanes.
-/
import Derived.Test.YtfnicgdcofjlpaaGreatDoorTie
import Derived.Test.YtfnicgdcofjlpaaGreatDoorCards
import Derived.JoinedOf
namespace Go.Proofs.YtfnicgdcofjlpaaGreatDoor.deskLanesProof
set_option linter.all false
theorem jf0:(Rows.deskLanesRow.wf (OpenSpec.ofChange Rows.deskLanesSpec))=true:=by kernel_rfl
theorem jf1:(laidOutB Tryz.prog)=true:=by kernel_rfl
theorem jf2:(mapsRowed Tryz.prog)=true:=by kernel_rfl
theorem jf3:(Tryz.f3.params.all (Tryz.prog.readableRec ·))=true:=by kernel_rfl
theorem jf4:(namedTie Tryz.prog Rows.deskLanesRow.named Rows.deskLanesSpec.vars)=true:=by kernel_rfl
theorem jf5:((Rows.deskLanesRow.stops == []))=true:=by kernel_rfl
theorem jf6:((Tryz.prog.stops == []))=true:=by kernel_rfl
theorem jf7:((Rows.deskLanesRow.knobs == []))=true:=by kernel_rfl
theorem jf8:((Tryz.prog.stopKnobs == []))=true:=by kernel_rfl
theorem jf9:((Rows.deskLanesRow.inPlace == Tryz.prog.inPlace 3))=true:=by kernel_rfl
theorem xv:((Rows.deskLanesRow.unfollowed == Tryz.prog.unfollowed 3))=true:=by kernel_rfl
theorem xw:((Rows.deskLanesRow.recurses == Tryz.prog.recurses 3))=true:=by kernel_rfl
theorem xx:((Rows.deskLanesRow.named == Tryz.prog.varsNamed 3))=true:=by kernel_rfl
theorem xy:((Rows.deskLanesRow.maps == (Tryz.f3.params.toList++Rows.deskLanesSpec.plain.varTypes Tryz.prog).any (Tryz.prog.mapsRec ·)))=true:=by kernel_rfl
theorem xz:((Rows.deskLanesRow.ifaces == (Tryz.f3.params.toList++Rows.deskLanesSpec.plain.varTypes Tryz.prog).any (Tryz.prog.ifacesRec ·)))=true:=by kernel_rfl
theorem xA:((Rows.deskLanesRow.mapsOut == Tryz.prog.mapsAmong Tryz.f3.resultTypes.toList))=true:=by kernel_rfl
theorem xB:((Rows.deskLanesRow.loops == (Tryz.f3.params.toList++Rows.deskLanesSpec.plain.varTypes Tryz.prog).any (Tryz.prog.loopsFrom ·)))=true:=by kernel_rfl
theorem xC:((Rows.deskLanesRow.wideKeys == (Tryz.f3.params.toList++Rows.deskLanesSpec.plain.varTypes Tryz.prog++Tryz.f3.resultTypes.toList).any (Tryz.prog.wideKeysFrom ·)))=true:=by kernel_rfl
theorem xD:(Rows.deskLanesSpec.vars.all (Tryz.prog.varReadable ·))=true:=by kernel_rfl
theorem xE:(Tryz.f3.resultTypes.all (fun t=>Tryz.prog.readableRec t&&decide (t<Tryz.prog.types.size)))=true:=by kernel_rfl
theorem xF:((Rows.deskLanesRow.ifacesOut == Tryz.f3.resultTypes.toList.any (Tryz.prog.ifacesRec ·)))=true:=by kernel_rfl
theorem xG:((Rows.deskLanesRow.loopsOut == Tryz.f3.resultTypes.toList.any (Tryz.prog.loopsFrom ·)))=true:=by kernel_rfl
theorem xH:((Rows.deskLanesRow.plainKeys == Tryz.prog.plainKeys))=true:=by kernel_rfl
theorem xI:(Rows.deskLanesRow.shortTexts.isNone)=true:=by kernel_rfl
theorem xJ:(Tryz.prog.stopsHeard)=true:=by kernel_rfl
theorem xK:((Rows.deskLanesRow.kinds == (if Rows.deskLanesRow.domain.isEmpty then [] else Tryz.f3.params.toList.map fun t=>match Tryz.prog.underlying t with | some (.int k)=>some k | _=>none)))=true:=by kernel_rfl
theorem xL:((Rows.deskLanesRow.pinned == Rows.deskLanesRow.pinnedBy))=true:=by kernel_rfl
theorem xM:((Rows.deskLanesRow.veiled == (Tryz.f3.params.toList++Rows.deskLanesSpec.plain.varTypes Tryz.prog++Tryz.f3.resultTypes.toList).any (Tryz.prog.veiledRec ·)))=true:=by kernel_rfl
theorem xN:(Rows.deskLanesRow.veiledFits Tryz.prog Tryz.f3.params.toList (Tryz.f3.params.toList++Rows.deskLanesSpec.plain.varTypes Tryz.prog++Tryz.f3.resultTypes.toList))=true:=by kernel_rfl
theorem kf0:Rows.deskLanesRow.wfByText (OpenSpec.ofChange Rows.deskLanesSpec)=true:=by kernel_rfl
theorem kf2:true=Tryz.prog.looks []:=by kernel_rfl
theorem kf4:Tryz.prog.funcNamed Rows.deskLanesRow.func=some 3:=by kernel_rfl
end Go.Proofs.YtfnicgdcofjlpaaGreatDoor.deskLanesProof
