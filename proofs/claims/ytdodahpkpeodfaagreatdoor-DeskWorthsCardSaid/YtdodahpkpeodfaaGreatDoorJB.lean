/-
 Closed facts of the row of DeskWorths.
-/
import Derived.Test.YtdodahpkpeodfaaGreatDoorTie
import Derived.Test.YtdodahpkpeodfaaGreatDoorCards
import Derived.JoinedOf
namespace Go.Proofs.YtdodahpkpeodfaaGreatDoor.deskWorthsProof
set_option linter.all false
theorem jf0:(Rows.deskWorthsRow.wf (OpenSpec.ofChange Rows.deskWorthsSpec))=true:=by kernel_rfl
theorem jf1:(laidOutB Tryz.prog)=true:=by kernel_rfl
theorem jf2:(mapsRowed Tryz.prog)=true:=by kernel_rfl
theorem jf3:(Tryz.f5.params.all (Tryz.prog.readableRec ·))=true:=by kernel_rfl
theorem jf4:(namedTie Tryz.prog Rows.deskWorthsRow.named Rows.deskWorthsSpec.vars)=true:=by kernel_rfl
theorem jf5:((Rows.deskWorthsRow.stops == []))=true:=by kernel_rfl
theorem jf6:((Tryz.prog.stops == []))=true:=by kernel_rfl
theorem jf7:((Rows.deskWorthsRow.knobs == []))=true:=by kernel_rfl
theorem jf8:((Tryz.prog.stopKnobs == []))=true:=by kernel_rfl
theorem jf9:((Rows.deskWorthsRow.inPlace == Tryz.prog.inPlace 5))=true:=by kernel_rfl
theorem xv:((Rows.deskWorthsRow.unfollowed == Tryz.prog.unfollowed 5))=true:=by kernel_rfl
theorem xw:((Rows.deskWorthsRow.recurses == Tryz.prog.recurses 5))=true:=by kernel_rfl
theorem xx:((Rows.deskWorthsRow.named == Tryz.prog.varsNamed 5))=true:=by kernel_rfl
theorem xy:((Rows.deskWorthsRow.maps == (Tryz.f5.params.toList++Rows.deskWorthsSpec.plain.varTypes Tryz.prog).any (Tryz.prog.mapsRec ·)))=true:=by kernel_rfl
theorem xz:((Rows.deskWorthsRow.ifaces == (Tryz.f5.params.toList++Rows.deskWorthsSpec.plain.varTypes Tryz.prog).any (Tryz.prog.ifacesRec ·)))=true:=by kernel_rfl
theorem xA:((Rows.deskWorthsRow.mapsOut == Tryz.prog.mapsAmong Tryz.f5.resultTypes.toList))=true:=by kernel_rfl
theorem xB:((Rows.deskWorthsRow.loops == (Tryz.f5.params.toList++Rows.deskWorthsSpec.plain.varTypes Tryz.prog).any (Tryz.prog.loopsFrom ·)))=true:=by kernel_rfl
theorem xC:((Rows.deskWorthsRow.wideKeys == (Tryz.f5.params.toList++Rows.deskWorthsSpec.plain.varTypes Tryz.prog++Tryz.f5.resultTypes.toList).any (Tryz.prog.wideKeysFrom ·)))=true:=by kernel_rfl
theorem xD:(Rows.deskWorthsSpec.vars.all (Tryz.prog.varReadable ·))=true:=by kernel_rfl
theorem xE:(Tryz.f5.resultTypes.all (fun t=>Tryz.prog.readableRec t&&decide (t<Tryz.prog.types.size)))=true:=by kernel_rfl
theorem xF:((Rows.deskWorthsRow.ifacesOut == Tryz.f5.resultTypes.toList.any (Tryz.prog.ifacesRec ·)))=true:=by kernel_rfl
theorem xG:((Rows.deskWorthsRow.loopsOut == Tryz.f5.resultTypes.toList.any (Tryz.prog.loopsFrom ·)))=true:=by kernel_rfl
theorem xH:((Rows.deskWorthsRow.plainKeys == Tryz.prog.plainKeys))=true:=by kernel_rfl
theorem xI:(Rows.deskWorthsRow.shortTexts.isNone)=true:=by kernel_rfl
theorem xJ:(Tryz.prog.stopsHeard)=true:=by kernel_rfl
theorem xK:((Rows.deskWorthsRow.kinds == (if Rows.deskWorthsRow.domain.isEmpty then [] else Tryz.f5.params.toList.map fun t=>match Tryz.prog.underlying t with | some (.int k)=>some k | _=>none)))=true:=by kernel_rfl
theorem xL:((Rows.deskWorthsRow.pinned == Rows.deskWorthsRow.pinnedBy))=true:=by kernel_rfl
theorem xM:((Rows.deskWorthsRow.veiled == (Tryz.f5.params.toList++Rows.deskWorthsSpec.plain.varTypes Tryz.prog++Tryz.f5.resultTypes.toList).any (Tryz.prog.veiledRec ·)))=true:=by kernel_rfl
theorem xN:(Rows.deskWorthsRow.veiledFits Tryz.prog Tryz.f5.params.toList (Tryz.f5.params.toList++Rows.deskWorthsSpec.plain.varTypes Tryz.prog++Tryz.f5.resultTypes.toList))=true:=by kernel_rfl
theorem kf0:Rows.deskWorthsRow.wfByText (OpenSpec.ofChange Rows.deskWorthsSpec)=true:=by kernel_rfl
theorem kf2:true=Tryz.prog.looks []:=by kernel_rfl
theorem kf4:Tryz.prog.funcNamed Rows.deskWorthsRow.func=some 5:=by kernel_rfl
end Go.Proofs.YtdodahpkpeodfaaGreatDoor.deskWorthsProof
