/-
 Closed facts of the row of DeskAgrees.
-/
import Derived.Test.YtemciceobngijaaGreatDoorTie
import Derived.Test.YtemciceobngijaaGreatDoorCards
import Derived.JoinedOf
namespace Go.Proofs.YtemciceobngijaaGreatDoor.deskAgreesProof
set_option linter.all false
theorem jf0:(Rows.deskAgreesRow.wf (OpenSpec.ofChange Rows.deskAgreesSpec))=true:=by kernel_rfl
theorem jf1:(laidOutB Tryz.prog)=true:=by kernel_rfl
theorem jf2:(mapsRowed Tryz.prog)=true:=by kernel_rfl
theorem jf3:(Tryz.f3.params.all (Tryz.prog.readableRec ·))=true:=by kernel_rfl
theorem jf4:(namedTie Tryz.prog Rows.deskAgreesRow.named Rows.deskAgreesSpec.vars)=true:=by kernel_rfl
theorem jf5:((Rows.deskAgreesRow.stops == []))=true:=by kernel_rfl
theorem jf6:((Tryz.prog.stops == []))=true:=by kernel_rfl
theorem jf7:((Rows.deskAgreesRow.knobs == []))=true:=by kernel_rfl
theorem jf8:((Tryz.prog.stopKnobs == []))=true:=by kernel_rfl
theorem jf9:((Rows.deskAgreesRow.inPlace == Tryz.prog.inPlace 3))=true:=by kernel_rfl
theorem xv:((Rows.deskAgreesRow.unfollowed == Tryz.prog.unfollowed 3))=true:=by kernel_rfl
theorem xw:((Rows.deskAgreesRow.recurses == Tryz.prog.recurses 3))=true:=by kernel_rfl
theorem xx:((Rows.deskAgreesRow.named == Tryz.prog.varsNamed 3))=true:=by kernel_rfl
theorem xy:((Rows.deskAgreesRow.maps == (Tryz.f3.params.toList++Rows.deskAgreesSpec.plain.varTypes Tryz.prog).any (Tryz.prog.mapsRec ·)))=true:=by kernel_rfl
theorem xz:((Rows.deskAgreesRow.ifaces == (Tryz.f3.params.toList++Rows.deskAgreesSpec.plain.varTypes Tryz.prog).any (Tryz.prog.ifacesRec ·)))=true:=by kernel_rfl
theorem xA:((Rows.deskAgreesRow.mapsOut == Tryz.prog.mapsAmong Tryz.f3.resultTypes.toList))=true:=by kernel_rfl
theorem xB:((Rows.deskAgreesRow.loops == (Tryz.f3.params.toList++Rows.deskAgreesSpec.plain.varTypes Tryz.prog).any (Tryz.prog.loopsFrom ·)))=true:=by kernel_rfl
theorem xC:((Rows.deskAgreesRow.wideKeys == (Tryz.f3.params.toList++Rows.deskAgreesSpec.plain.varTypes Tryz.prog++Tryz.f3.resultTypes.toList).any (Tryz.prog.wideKeysFrom ·)))=true:=by kernel_rfl
theorem xD:(Rows.deskAgreesSpec.vars.all (Tryz.prog.varReadable ·))=true:=by kernel_rfl
theorem xE:(Tryz.f3.resultTypes.all (fun t=>Tryz.prog.readableRec t&&decide (t<Tryz.prog.types.size)))=true:=by kernel_rfl
theorem xF:((Rows.deskAgreesRow.ifacesOut == Tryz.f3.resultTypes.toList.any (Tryz.prog.ifacesRec ·)))=true:=by kernel_rfl
theorem xG:((Rows.deskAgreesRow.loopsOut == Tryz.f3.resultTypes.toList.any (Tryz.prog.loopsFrom ·)))=true:=by kernel_rfl
theorem xH:((Rows.deskAgreesRow.plainKeys == Tryz.prog.plainKeys))=true:=by kernel_rfl
theorem xI:(Rows.deskAgreesRow.shortTexts.isNone)=true:=by kernel_rfl
theorem xJ:(Tryz.prog.stopsHeard)=true:=by kernel_rfl
theorem xK:((Rows.deskAgreesRow.kinds == (if Rows.deskAgreesRow.domain.isEmpty then [] else Tryz.f3.params.toList.map fun t=>match Tryz.prog.underlying t with | some (.int k)=>some k | _=>none)))=true:=by kernel_rfl
theorem xL:((Rows.deskAgreesRow.pinned == Rows.deskAgreesRow.pinnedBy))=true:=by kernel_rfl
theorem xM:((Rows.deskAgreesRow.veiled == (Tryz.f3.params.toList++Rows.deskAgreesSpec.plain.varTypes Tryz.prog++Tryz.f3.resultTypes.toList).any (Tryz.prog.veiledRec ·)))=true:=by kernel_rfl
theorem xN:(Rows.deskAgreesRow.veiledFits Tryz.prog Tryz.f3.params.toList (Tryz.f3.params.toList++Rows.deskAgreesSpec.plain.varTypes Tryz.prog++Tryz.f3.resultTypes.toList))=true:=by kernel_rfl
theorem kf0:Rows.deskAgreesRow.wfByText (OpenSpec.ofChange Rows.deskAgreesSpec)=true:=by kernel_rfl
theorem kf2:true=Tryz.prog.looks []:=by kernel_rfl
theorem kf4:Tryz.prog.funcNamed Rows.deskAgreesRow.func=some 3:=by kernel_rfl
end Go.Proofs.YtemciceobngijaaGreatDoor.deskAgreesProof
