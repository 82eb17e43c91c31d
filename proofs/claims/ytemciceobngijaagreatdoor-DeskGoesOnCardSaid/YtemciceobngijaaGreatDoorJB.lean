/-
 Closed facts of the row of DeskGoesOn.
-/
import Derived.Test.YtemciceobngijaaGreatDoorTie
import Derived.Test.YtemciceobngijaaGreatDoorCards
import Derived.JoinedOf
namespace Go.Proofs.YtemciceobngijaaGreatDoor.deskGoesOnProof
set_option linter.all false
theorem jf0:(Rows.deskGoesOnRow.wf (OpenSpec.ofChange Rows.deskGoesOnSpec))=true:=by kernel_rfl
theorem jf1:(laidOutB Tryz.prog)=true:=by kernel_rfl
theorem jf2:(mapsRowed Tryz.prog)=true:=by kernel_rfl
theorem jf3:(Tryz.f4.params.all (Tryz.prog.readableRec ·))=true:=by kernel_rfl
theorem jf4:(namedTie Tryz.prog Rows.deskGoesOnRow.named Rows.deskGoesOnSpec.vars)=true:=by kernel_rfl
theorem jf5:((Rows.deskGoesOnRow.stops == []))=true:=by kernel_rfl
theorem jf6:((Tryz.prog.stops == []))=true:=by kernel_rfl
theorem jf7:((Rows.deskGoesOnRow.knobs == []))=true:=by kernel_rfl
theorem jf8:((Tryz.prog.stopKnobs == []))=true:=by kernel_rfl
theorem jf9:((Rows.deskGoesOnRow.inPlace == Tryz.prog.inPlace 4))=true:=by kernel_rfl
theorem xv:((Rows.deskGoesOnRow.unfollowed == Tryz.prog.unfollowed 4))=true:=by kernel_rfl
theorem xw:((Rows.deskGoesOnRow.recurses == Tryz.prog.recurses 4))=true:=by kernel_rfl
theorem xx:((Rows.deskGoesOnRow.named == Tryz.prog.varsNamed 4))=true:=by kernel_rfl
theorem xy:((Rows.deskGoesOnRow.maps == (Tryz.f4.params.toList++Rows.deskGoesOnSpec.plain.varTypes Tryz.prog).any (Tryz.prog.mapsRec ·)))=true:=by kernel_rfl
theorem xz:((Rows.deskGoesOnRow.ifaces == (Tryz.f4.params.toList++Rows.deskGoesOnSpec.plain.varTypes Tryz.prog).any (Tryz.prog.ifacesRec ·)))=true:=by kernel_rfl
theorem xA:((Rows.deskGoesOnRow.mapsOut == Tryz.prog.mapsAmong Tryz.f4.resultTypes.toList))=true:=by kernel_rfl
theorem xB:((Rows.deskGoesOnRow.loops == (Tryz.f4.params.toList++Rows.deskGoesOnSpec.plain.varTypes Tryz.prog).any (Tryz.prog.loopsFrom ·)))=true:=by kernel_rfl
theorem xC:((Rows.deskGoesOnRow.wideKeys == (Tryz.f4.params.toList++Rows.deskGoesOnSpec.plain.varTypes Tryz.prog++Tryz.f4.resultTypes.toList).any (Tryz.prog.wideKeysFrom ·)))=true:=by kernel_rfl
theorem xD:(Rows.deskGoesOnSpec.vars.all (Tryz.prog.varReadable ·))=true:=by kernel_rfl
theorem xE:(Tryz.f4.resultTypes.all (fun t=>Tryz.prog.readableRec t&&decide (t<Tryz.prog.types.size)))=true:=by kernel_rfl
theorem xF:((Rows.deskGoesOnRow.ifacesOut == Tryz.f4.resultTypes.toList.any (Tryz.prog.ifacesRec ·)))=true:=by kernel_rfl
theorem xG:((Rows.deskGoesOnRow.loopsOut == Tryz.f4.resultTypes.toList.any (Tryz.prog.loopsFrom ·)))=true:=by kernel_rfl
theorem xH:((Rows.deskGoesOnRow.plainKeys == Tryz.prog.plainKeys))=true:=by kernel_rfl
theorem xI:(Rows.deskGoesOnRow.shortTexts.isNone)=true:=by kernel_rfl
theorem xJ:(Tryz.prog.stopsHeard)=true:=by kernel_rfl
theorem xK:((Rows.deskGoesOnRow.kinds == (if Rows.deskGoesOnRow.domain.isEmpty then [] else Tryz.f4.params.toList.map fun t=>match Tryz.prog.underlying t with | some (.int k)=>some k | _=>none)))=true:=by kernel_rfl
theorem xL:((Rows.deskGoesOnRow.pinned == Rows.deskGoesOnRow.pinnedBy))=true:=by kernel_rfl
theorem xM:((Rows.deskGoesOnRow.veiled == (Tryz.f4.params.toList++Rows.deskGoesOnSpec.plain.varTypes Tryz.prog++Tryz.f4.resultTypes.toList).any (Tryz.prog.veiledRec ·)))=true:=by kernel_rfl
theorem xN:(Rows.deskGoesOnRow.veiledFits Tryz.prog Tryz.f4.params.toList (Tryz.f4.params.toList++Rows.deskGoesOnSpec.plain.varTypes Tryz.prog++Tryz.f4.resultTypes.toList))=true:=by kernel_rfl
theorem kf0:Rows.deskGoesOnRow.wfByText (OpenSpec.ofChange Rows.deskGoesOnSpec)=true:=by kernel_rfl
theorem kf2:true=Tryz.prog.looks []:=by kernel_rfl
theorem kf4:Tryz.prog.funcNamed Rows.deskGoesOnRow.func=some 4:=by kernel_rfl
end Go.Proofs.YtemciceobngijaaGreatDoor.deskGoesOnProof
