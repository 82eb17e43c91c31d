/-
 Closed facts of the row of DeskBack.
-/
import Derived.Test.YtiaoloodgildeaaGreatDoorTie
import Derived.Test.YtiaoloodgildeaaGreatDoorCards
import Derived.JoinedOf
namespace Go.Proofs.YtiaoloodgildeaaGreatDoor.deskBackProof
set_option linter.all false
theorem jf0:(Rows.deskBackRow.wf (OpenSpec.ofChange Rows.deskBackSpec))=true:=by kernel_rfl
theorem jf1:(laidOutB Tryz.prog)=true:=by kernel_rfl
theorem jf2:(mapsRowed Tryz.prog)=true:=by kernel_rfl
theorem jf3:(Tryz.f10.params.all (Tryz.prog.readableRec ·))=true:=by kernel_rfl
theorem jf4:(namedTie Tryz.prog Rows.deskBackRow.named Rows.deskBackSpec.vars)=true:=by kernel_rfl
theorem jf5:((Rows.deskBackRow.stops == []))=true:=by kernel_rfl
theorem jf6:((Tryz.prog.stops == []))=true:=by kernel_rfl
theorem jf7:((Rows.deskBackRow.knobs == []))=true:=by kernel_rfl
theorem jf8:((Tryz.prog.stopKnobs == []))=true:=by kernel_rfl
theorem jf9:((Rows.deskBackRow.inPlace == Tryz.prog.inPlace 10))=true:=by kernel_rfl
theorem xv:((Rows.deskBackRow.unfollowed == Tryz.prog.unfollowed 10))=true:=by kernel_rfl
theorem xw:((Rows.deskBackRow.recurses == Tryz.prog.recurses 10))=true:=by kernel_rfl
theorem xx:((Rows.deskBackRow.named == Tryz.prog.varsNamed 10))=true:=by kernel_rfl
theorem xy:((Rows.deskBackRow.maps == (Tryz.f10.params.toList++Rows.deskBackSpec.plain.varTypes Tryz.prog).any (Tryz.prog.mapsRec ·)))=true:=by kernel_rfl
theorem xz:((Rows.deskBackRow.ifaces == (Tryz.f10.params.toList++Rows.deskBackSpec.plain.varTypes Tryz.prog).any (Tryz.prog.ifacesRec ·)))=true:=by kernel_rfl
theorem xA:((Rows.deskBackRow.mapsOut == Tryz.prog.mapsAmong Tryz.f10.resultTypes.toList))=true:=by kernel_rfl
theorem xB:((Rows.deskBackRow.loops == (Tryz.f10.params.toList++Rows.deskBackSpec.plain.varTypes Tryz.prog).any (Tryz.prog.loopsFrom ·)))=true:=by kernel_rfl
theorem xC:((Rows.deskBackRow.wideKeys == (Tryz.f10.params.toList++Rows.deskBackSpec.plain.varTypes Tryz.prog++Tryz.f10.resultTypes.toList).any (Tryz.prog.wideKeysFrom ·)))=true:=by kernel_rfl
theorem xD:(Rows.deskBackSpec.vars.all (Tryz.prog.varReadable ·))=true:=by kernel_rfl
theorem xE:(Tryz.f10.resultTypes.all (fun t=>Tryz.prog.readableRec t&&decide (t<Tryz.prog.types.size)))=true:=by kernel_rfl
theorem xF:((Rows.deskBackRow.ifacesOut == Tryz.f10.resultTypes.toList.any (Tryz.prog.ifacesRec ·)))=true:=by kernel_rfl
theorem xG:((Rows.deskBackRow.loopsOut == Tryz.f10.resultTypes.toList.any (Tryz.prog.loopsFrom ·)))=true:=by kernel_rfl
theorem xH:((Rows.deskBackRow.plainKeys == Tryz.prog.plainKeys))=true:=by kernel_rfl
theorem xI:(Rows.deskBackRow.shortTexts.isNone)=true:=by kernel_rfl
theorem xJ:(Tryz.prog.stopsHeard)=true:=by kernel_rfl
theorem xK:((Rows.deskBackRow.kinds == (if Rows.deskBackRow.domain.isEmpty then [] else Tryz.f10.params.toList.map fun t=>match Tryz.prog.underlying t with | some (.int k)=>some k | _=>none)))=true:=by kernel_rfl
theorem xL:((Rows.deskBackRow.pinned == Rows.deskBackRow.pinnedBy))=true:=by kernel_rfl
theorem xM:((Rows.deskBackRow.veiled == (Tryz.f10.params.toList++Rows.deskBackSpec.plain.varTypes Tryz.prog++Tryz.f10.resultTypes.toList).any (Tryz.prog.veiledRec ·)))=true:=by kernel_rfl
theorem xN:(Rows.deskBackRow.veiledFits Tryz.prog Tryz.f10.params.toList (Tryz.f10.params.toList++Rows.deskBackSpec.plain.varTypes Tryz.prog++Tryz.f10.resultTypes.toList))=true:=by kernel_rfl
theorem kf0:Rows.deskBackRow.wfByText (OpenSpec.ofChange Rows.deskBackSpec)=true:=by kernel_rfl
theorem kf2:true=Tryz.prog.looks []:=by kernel_rfl
theorem kf4:Tryz.prog.funcNamed Rows.deskBackRow.func=some 10:=by kernel_rfl
end Go.Proofs.YtiaoloodgildeaaGreatDoor.deskBackProof
