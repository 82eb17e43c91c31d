/-
 Closed facts of the row of DeskWrites.
-/
import Derived.Test.YtiaoloodgildeaaGreatDoorTie
import Derived.Test.YtiaoloodgildeaaGreatDoorCards
import Derived.JoinedOf
namespace Go.Proofs.YtiaoloodgildeaaGreatDoor.deskWritesProof
set_option linter.all false
theorem jf0:(Rows.deskWritesRow.wf (OpenSpec.ofChange Rows.deskWritesSpec))=true:=by kernel_rfl
theorem jf1:(laidOutB Tryz.prog)=true:=by kernel_rfl
theorem jf2:(mapsRowed Tryz.prog)=true:=by kernel_rfl
theorem jf3:(Tryz.f15.params.all (Tryz.prog.readableRec ·))=true:=by kernel_rfl
theorem jf4:(namedTie Tryz.prog Rows.deskWritesRow.named Rows.deskWritesSpec.vars)=true:=by kernel_rfl
theorem jf5:((Rows.deskWritesRow.stops == []))=true:=by kernel_rfl
theorem jf6:((Tryz.prog.stops == []))=true:=by kernel_rfl
theorem jf7:((Rows.deskWritesRow.knobs == []))=true:=by kernel_rfl
theorem jf8:((Tryz.prog.stopKnobs == []))=true:=by kernel_rfl
theorem jf9:((Rows.deskWritesRow.inPlace == Tryz.prog.inPlace 15))=true:=by kernel_rfl
theorem xv:((Rows.deskWritesRow.unfollowed == Tryz.prog.unfollowed 15))=true:=by kernel_rfl
theorem xw:((Rows.deskWritesRow.recurses == Tryz.prog.recurses 15))=true:=by kernel_rfl
theorem xx:((Rows.deskWritesRow.named == Tryz.prog.varsNamed 15))=true:=by kernel_rfl
theorem xy:((Rows.deskWritesRow.maps == (Tryz.f15.params.toList++Rows.deskWritesSpec.plain.varTypes Tryz.prog).any (Tryz.prog.mapsRec ·)))=true:=by kernel_rfl
theorem xz:((Rows.deskWritesRow.ifaces == (Tryz.f15.params.toList++Rows.deskWritesSpec.plain.varTypes Tryz.prog).any (Tryz.prog.ifacesRec ·)))=true:=by kernel_rfl
theorem xA:((Rows.deskWritesRow.mapsOut == Tryz.prog.mapsAmong Tryz.f15.resultTypes.toList))=true:=by kernel_rfl
theorem xB:((Rows.deskWritesRow.loops == (Tryz.f15.params.toList++Rows.deskWritesSpec.plain.varTypes Tryz.prog).any (Tryz.prog.loopsFrom ·)))=true:=by kernel_rfl
theorem xC:((Rows.deskWritesRow.wideKeys == (Tryz.f15.params.toList++Rows.deskWritesSpec.plain.varTypes Tryz.prog++Tryz.f15.resultTypes.toList).any (Tryz.prog.wideKeysFrom ·)))=true:=by kernel_rfl
theorem xD:(Rows.deskWritesSpec.vars.all (Tryz.prog.varReadable ·))=true:=by kernel_rfl
theorem xE:(Tryz.f15.resultTypes.all (fun t=>Tryz.prog.readableRec t&&decide (t<Tryz.prog.types.size)))=true:=by kernel_rfl
theorem xF:((Rows.deskWritesRow.ifacesOut == Tryz.f15.resultTypes.toList.any (Tryz.prog.ifacesRec ·)))=true:=by kernel_rfl
theorem xG:((Rows.deskWritesRow.loopsOut == Tryz.f15.resultTypes.toList.any (Tryz.prog.loopsFrom ·)))=true:=by kernel_rfl
theorem xH:((Rows.deskWritesRow.plainKeys == Tryz.prog.plainKeys))=true:=by kernel_rfl
theorem xI:(Rows.deskWritesRow.shortTexts.isNone)=true:=by kernel_rfl
theorem xJ:(Tryz.prog.stopsHeard)=true:=by kernel_rfl
theorem xK:((Rows.deskWritesRow.kinds == (if Rows.deskWritesRow.domain.isEmpty then [] else Tryz.f15.params.toList.map fun t=>match Tryz.prog.underlying t with | some (.int k)=>some k | _=>none)))=true:=by kernel_rfl
theorem xL:((Rows.deskWritesRow.pinned == Rows.deskWritesRow.pinnedBy))=true:=by kernel_rfl
theorem xM:((Rows.deskWritesRow.veiled == (Tryz.f15.params.toList++Rows.deskWritesSpec.plain.varTypes Tryz.prog++Tryz.f15.resultTypes.toList).any (Tryz.prog.veiledRec ·)))=true:=by kernel_rfl
theorem xN:(Rows.deskWritesRow.veiledFits Tryz.prog Tryz.f15.params.toList (Tryz.f15.params.toList++Rows.deskWritesSpec.plain.varTypes Tryz.prog++Tryz.f15.resultTypes.toList))=true:=by kernel_rfl
theorem kf0:Rows.deskWritesRow.wfByText (OpenSpec.ofChange Rows.deskWritesSpec)=true:=by kernel_rfl
theorem kf2:true=Tryz.prog.looks []:=by kernel_rfl
theorem kf4:Tryz.prog.funcNamed Rows.deskWritesRow.func=some 15:=by kernel_rfl
end Go.Proofs.YtiaoloodgildeaaGreatDoor.deskWritesProof
