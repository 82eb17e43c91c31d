/-
 Closed facts of the row of DeskReports.
-/
import Derived.Test.YtdodahpkpeodfaaGreatDoorTie
import Derived.Test.YtdodahpkpeodfaaGreatDoorCards
import Derived.JoinedOf
namespace Go.Proofs.YtdodahpkpeodfaaGreatDoor.deskReportsProof
set_option linter.all false
theorem xq:(Tryz.prog.mayEnter)=true:=by kernel_rfl
theorem xr:((Rows.deskReportsRow.lifted == Tryz.prog.liftsFinal))=true:=by kernel_rfl
theorem xu:((Tryz.prog.make == some Rows.deskReportsRow.make))=true:=by kernel_rfl
theorem kf1:Tryz.prog.mainIs=some (true,"2ffcd3cc8198143c6672cb636acfa665281f2eff72f2669f121eef0aebcdf0ba".toList):=by kernel_rfl
theorem kf3:false=Rows.deskReportsRow.goesBy Tryz.prog:=by kernel_rfl
end Go.Proofs.YtdodahpkpeodfaaGreatDoor.deskReportsProof
namespace Go.Proofs.YtdodahpkpeodfaaGreatDoor.deskReportsProof
set_option linter.all false
theorem jf0:(Rows.deskReportsRow.wf (OpenSpec.ofChange Rows.deskReportsSpec))=true:=by kernel_rfl
theorem jf1:(laidOutB Tryz.prog)=true:=by kernel_rfl
theorem jf2:(mapsRowed Tryz.prog)=true:=by kernel_rfl
theorem jf3:(Tryz.f6.params.all (Tryz.prog.readableRec ·))=true:=by kernel_rfl
theorem jf4:(namedTie Tryz.prog Rows.deskReportsRow.named Rows.deskReportsSpec.vars)=true:=by kernel_rfl
theorem jf5:((Rows.deskReportsRow.stops == []))=true:=by kernel_rfl
theorem jf6:((Tryz.prog.stops == []))=true:=by kernel_rfl
theorem jf7:((Rows.deskReportsRow.knobs == []))=true:=by kernel_rfl
theorem jf8:((Tryz.prog.stopKnobs == []))=true:=by kernel_rfl
theorem jf9:((Rows.deskReportsRow.inPlace == Tryz.prog.inPlace 6))=true:=by kernel_rfl
theorem xv:((Rows.deskReportsRow.unfollowed == Tryz.prog.unfollowed 6))=true:=by kernel_rfl
theorem xw:((Rows.deskReportsRow.recurses == Tryz.prog.recurses 6))=true:=by kernel_rfl
theorem xx:((Rows.deskReportsRow.named == Tryz.prog.varsNamed 6))=true:=by kernel_rfl
theorem xy:((Rows.deskReportsRow.maps == (Tryz.f6.params.toList++Rows.deskReportsSpec.plain.varTypes Tryz.prog).any (Tryz.prog.mapsRec ·)))=true:=by kernel_rfl
theorem xz:((Rows.deskReportsRow.ifaces == (Tryz.f6.params.toList++Rows.deskReportsSpec.plain.varTypes Tryz.prog).any (Tryz.prog.ifacesRec ·)))=true:=by kernel_rfl
theorem xA:((Rows.deskReportsRow.mapsOut == Tryz.prog.mapsAmong Tryz.f6.resultTypes.toList))=true:=by kernel_rfl
theorem xB:((Rows.deskReportsRow.loops == (Tryz.f6.params.toList++Rows.deskReportsSpec.plain.varTypes Tryz.prog).any (Tryz.prog.loopsFrom ·)))=true:=by kernel_rfl
theorem xC:((Rows.deskReportsRow.wideKeys == (Tryz.f6.params.toList++Rows.deskReportsSpec.plain.varTypes Tryz.prog++Tryz.f6.resultTypes.toList).any (Tryz.prog.wideKeysFrom ·)))=true:=by kernel_rfl
theorem xD:(Rows.deskReportsSpec.vars.all (Tryz.prog.varReadable ·))=true:=by kernel_rfl
theorem xE:(Tryz.f6.resultTypes.all (fun t=>Tryz.prog.readableRec t&&decide (t<Tryz.prog.types.size)))=true:=by kernel_rfl
theorem xF:((Rows.deskReportsRow.ifacesOut == Tryz.f6.resultTypes.toList.any (Tryz.prog.ifacesRec ·)))=true:=by kernel_rfl
theorem xG:((Rows.deskReportsRow.loopsOut == Tryz.f6.resultTypes.toList.any (Tryz.prog.loopsFrom ·)))=true:=by kernel_rfl
theorem xH:((Rows.deskReportsRow.plainKeys == Tryz.prog.plainKeys))=true:=by kernel_rfl
theorem xI:(Rows.deskReportsRow.shortTexts.isNone)=true:=by kernel_rfl
theorem xJ:(Tryz.prog.stopsHeard)=true:=by kernel_rfl
theorem xK:((Rows.deskReportsRow.kinds == (if Rows.deskReportsRow.domain.isEmpty then [] else Tryz.f6.params.toList.map fun t=>match Tryz.prog.underlying t with | some (.int k)=>some k | _=>none)))=true:=by kernel_rfl
theorem xL:((Rows.deskReportsRow.pinned == Rows.deskReportsRow.pinnedBy))=true:=by kernel_rfl
theorem xM:((Rows.deskReportsRow.veiled == (Tryz.f6.params.toList++Rows.deskReportsSpec.plain.varTypes Tryz.prog++Tryz.f6.resultTypes.toList).any (Tryz.prog.veiledRec ·)))=true:=by kernel_rfl
theorem xN:(Rows.deskReportsRow.veiledFits Tryz.prog Tryz.f6.params.toList (Tryz.f6.params.toList++Rows.deskReportsSpec.plain.varTypes Tryz.prog++Tryz.f6.resultTypes.toList))=true:=by kernel_rfl
theorem kf0:Rows.deskReportsRow.wfByText (OpenSpec.ofChange Rows.deskReportsSpec)=true:=by kernel_rfl
theorem kf2:true=Tryz.prog.looks []:=by kernel_rfl
theorem kf4:Tryz.prog.funcNamed Rows.deskReportsRow.func=some 6:=by kernel_rfl
end Go.Proofs.YtdodahpkpeodfaaGreatDoor.deskReportsProof
