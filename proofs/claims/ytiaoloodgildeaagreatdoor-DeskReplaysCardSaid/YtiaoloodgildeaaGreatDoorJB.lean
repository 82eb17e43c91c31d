/-
 Closed facts of the row of DeskReplays.
-/
import Derived.Test.YtiaoloodgildeaaGreatDoorTie
import Derived.Test.YtiaoloodgildeaaGreatDoorCards
import Derived.JoinedOf
namespace Go.Proofs.YtiaoloodgildeaaGreatDoor.deskReplaysProof
set_option linter.all false
theorem jf0:(Rows.deskReplaysRow.wf (OpenSpec.ofChange Rows.deskReplaysSpec))=true:=by kernel_rfl
theorem jf1:(laidOutB Tryz.prog)=true:=by kernel_rfl
theorem jf2:(mapsRowed Tryz.prog)=true:=by kernel_rfl
theorem jf3:(Tryz.f8.params.all (Tryz.prog.readableRec ·))=true:=by kernel_rfl
theorem jf4:(namedTie Tryz.prog Rows.deskReplaysRow.named Rows.deskReplaysSpec.vars)=true:=by kernel_rfl
theorem jf5:((Rows.deskReplaysRow.stops == []))=true:=by kernel_rfl
theorem jf6:((Tryz.prog.stops == []))=true:=by kernel_rfl
theorem jf7:((Rows.deskReplaysRow.knobs == []))=true:=by kernel_rfl
theorem jf8:((Tryz.prog.stopKnobs == []))=true:=by kernel_rfl
theorem jf9:((Rows.deskReplaysRow.inPlace == Tryz.prog.inPlace 8))=true:=by kernel_rfl
theorem xv:((Rows.deskReplaysRow.unfollowed == Tryz.prog.unfollowed 8))=true:=by kernel_rfl
theorem xw:((Rows.deskReplaysRow.recurses == Tryz.prog.recurses 8))=true:=by kernel_rfl
theorem xx:((Rows.deskReplaysRow.named == Tryz.prog.varsNamed 8))=true:=by kernel_rfl
theorem xy:((Rows.deskReplaysRow.maps == (Tryz.f8.params.toList++Rows.deskReplaysSpec.plain.varTypes Tryz.prog).any (Tryz.prog.mapsRec ·)))=true:=by kernel_rfl
theorem xz:((Rows.deskReplaysRow.ifaces == (Tryz.f8.params.toList++Rows.deskReplaysSpec.plain.varTypes Tryz.prog).any (Tryz.prog.ifacesRec ·)))=true:=by kernel_rfl
theorem xA:((Rows.deskReplaysRow.mapsOut == Tryz.prog.mapsAmong Tryz.f8.resultTypes.toList))=true:=by kernel_rfl
theorem xB:((Rows.deskReplaysRow.loops == (Tryz.f8.params.toList++Rows.deskReplaysSpec.plain.varTypes Tryz.prog).any (Tryz.prog.loopsFrom ·)))=true:=by kernel_rfl
theorem xC:((Rows.deskReplaysRow.wideKeys == (Tryz.f8.params.toList++Rows.deskReplaysSpec.plain.varTypes Tryz.prog++Tryz.f8.resultTypes.toList).any (Tryz.prog.wideKeysFrom ·)))=true:=by kernel_rfl
theorem xD:(Rows.deskReplaysSpec.vars.all (Tryz.prog.varReadable ·))=true:=by kernel_rfl
theorem xE:(Tryz.f8.resultTypes.all (fun t=>Tryz.prog.readableRec t&&decide (t<Tryz.prog.types.size)))=true:=by kernel_rfl
theorem xF:((Rows.deskReplaysRow.ifacesOut == Tryz.f8.resultTypes.toList.any (Tryz.prog.ifacesRec ·)))=true:=by kernel_rfl
theorem xG:((Rows.deskReplaysRow.loopsOut == Tryz.f8.resultTypes.toList.any (Tryz.prog.loopsFrom ·)))=true:=by kernel_rfl
theorem xH:((Rows.deskReplaysRow.plainKeys == Tryz.prog.plainKeys))=true:=by kernel_rfl
theorem xI:(Rows.deskReplaysRow.shortTexts.isNone)=true:=by kernel_rfl
theorem xJ:(Tryz.prog.stopsHeard)=true:=by kernel_rfl
theorem xK:((Rows.deskReplaysRow.kinds == (if Rows.deskReplaysRow.domain.isEmpty then [] else Tryz.f8.params.toList.map fun t=>match Tryz.prog.underlying t with | some (.int k)=>some k | _=>none)))=true:=by kernel_rfl
theorem xL:((Rows.deskReplaysRow.pinned == Rows.deskReplaysRow.pinnedBy))=true:=by kernel_rfl
theorem xM:((Rows.deskReplaysRow.veiled == (Tryz.f8.params.toList++Rows.deskReplaysSpec.plain.varTypes Tryz.prog++Tryz.f8.resultTypes.toList).any (Tryz.prog.veiledRec ·)))=true:=by kernel_rfl
theorem xN:(Rows.deskReplaysRow.veiledFits Tryz.prog Tryz.f8.params.toList (Tryz.f8.params.toList++Rows.deskReplaysSpec.plain.varTypes Tryz.prog++Tryz.f8.resultTypes.toList))=true:=by kernel_rfl
theorem kf0:Rows.deskReplaysRow.wfByText (OpenSpec.ofChange Rows.deskReplaysSpec)=true:=by kernel_rfl
theorem kf2:true=Tryz.prog.looks []:=by kernel_rfl
theorem kf4:Tryz.prog.funcNamed Rows.deskReplaysRow.func=some 8:=by kernel_rfl
end Go.Proofs.YtiaoloodgildeaaGreatDoor.deskReplaysProof
