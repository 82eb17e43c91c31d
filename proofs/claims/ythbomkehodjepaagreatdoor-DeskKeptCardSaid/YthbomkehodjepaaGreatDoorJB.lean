/-
 Closed facts of the row of DeskKept.
-/
import Derived.Test.YthbomkehodjepaaGreatDoorTie
import Derived.Test.YthbomkehodjepaaGreatDoorCards
import Derived.JoinedOf
namespace Go.Proofs.YthbomkehodjepaaGreatDoor.deskKeptProof
set_option linter.all false
theorem jf0:(Rows.deskKeptRow.wf (OpenSpec.ofChange Rows.deskKeptSpec))=true:=by kernel_rfl
theorem jf1:(laidOutB Tryz.prog)=true:=by kernel_rfl
theorem jf2:(mapsRowed Tryz.prog)=true:=by kernel_rfl
theorem jf3:(Tryz.f3.params.all (Tryz.prog.readableRec ·))=true:=by kernel_rfl
theorem jf4:(namedTie Tryz.prog Rows.deskKeptRow.named Rows.deskKeptSpec.vars)=true:=by kernel_rfl
theorem jf5:((Rows.deskKeptRow.stops == []))=true:=by kernel_rfl
theorem jf6:((Tryz.prog.stops == []))=true:=by kernel_rfl
theorem jf7:((Rows.deskKeptRow.knobs == []))=true:=by kernel_rfl
theorem jf8:((Tryz.prog.stopKnobs == []))=true:=by kernel_rfl
theorem jf9:((Rows.deskKeptRow.inPlace == Tryz.prog.inPlace 3))=true:=by kernel_rfl
theorem xv:((Rows.deskKeptRow.unfollowed == Tryz.prog.unfollowed 3))=true:=by kernel_rfl
theorem xw:((Rows.deskKeptRow.recurses == Tryz.prog.recurses 3))=true:=by kernel_rfl
theorem xx:((Rows.deskKeptRow.named == Tryz.prog.varsNamed 3))=true:=by kernel_rfl
theorem xy:((Rows.deskKeptRow.maps == (Tryz.f3.params.toList++Rows.deskKeptSpec.plain.varTypes Tryz.prog).any (Tryz.prog.mapsRec ·)))=true:=by kernel_rfl
theorem xz:((Rows.deskKeptRow.ifaces == (Tryz.f3.params.toList++Rows.deskKeptSpec.plain.varTypes Tryz.prog).any (Tryz.prog.ifacesRec ·)))=true:=by kernel_rfl
theorem xA:((Rows.deskKeptRow.mapsOut == Tryz.prog.mapsAmong Tryz.f3.resultTypes.toList))=true:=by kernel_rfl
theorem xB:((Rows.deskKeptRow.loops == (Tryz.f3.params.toList++Rows.deskKeptSpec.plain.varTypes Tryz.prog).any (Tryz.prog.loopsFrom ·)))=true:=by kernel_rfl
theorem xC:((Rows.deskKeptRow.wideKeys == (Tryz.f3.params.toList++Rows.deskKeptSpec.plain.varTypes Tryz.prog++Tryz.f3.resultTypes.toList).any (Tryz.prog.wideKeysFrom ·)))=true:=by kernel_rfl
theorem xD:(Rows.deskKeptSpec.vars.all (Tryz.prog.varReadable ·))=true:=by kernel_rfl
theorem xE:(Tryz.f3.resultTypes.all (fun t=>Tryz.prog.readableRec t&&decide (t<Tryz.prog.types.size)))=true:=by kernel_rfl
theorem xF:((Rows.deskKeptRow.ifacesOut == Tryz.f3.resultTypes.toList.any (Tryz.prog.ifacesRec ·)))=true:=by kernel_rfl
theorem xG:((Rows.deskKeptRow.loopsOut == Tryz.f3.resultTypes.toList.any (Tryz.prog.loopsFrom ·)))=true:=by kernel_rfl
theorem xH:((Rows.deskKeptRow.plainKeys == Tryz.prog.plainKeys))=true:=by kernel_rfl
theorem xI:(Rows.deskKeptRow.shortTexts.isNone)=true:=by kernel_rfl
theorem xJ:(Tryz.prog.stopsHeard)=true:=by kernel_rfl
theorem xK:((Rows.deskKeptRow.kinds == (if Rows.deskKeptRow.domain.isEmpty then [] else Tryz.f3.params.toList.map fun t=>match Tryz.prog.underlying t with | some (.int k)=>some k | _=>none)))=true:=by kernel_rfl
theorem xL:((Rows.deskKeptRow.pinned == Rows.deskKeptRow.pinnedBy))=true:=by kernel_rfl
theorem xM:((Rows.deskKeptRow.veiled == (Tryz.f3.params.toList++Rows.deskKeptSpec.plain.varTypes Tryz.prog++Tryz.f3.resultTypes.toList).any (Tryz.prog.veiledRec ·)))=true:=by kernel_rfl
theorem xN:(Rows.deskKeptRow.veiledFits Tryz.prog Tryz.f3.params.toList (Tryz.f3.params.toList++Rows.deskKeptSpec.plain.varTypes Tryz.prog++Tryz.f3.resultTypes.toList))=true:=by kernel_rfl
theorem kf0:Rows.deskKeptRow.wfByText (OpenSpec.ofChange Rows.deskKeptSpec)=true:=by kernel_rfl
theorem kf2:true=Tryz.prog.looks []:=by kernel_rfl
theorem kf4:Tryz.prog.funcNamed Rows.deskKeptRow.func=some 3:=by kernel_rfl
end Go.Proofs.YthbomkehodjepaaGreatDoor.deskKeptProof
