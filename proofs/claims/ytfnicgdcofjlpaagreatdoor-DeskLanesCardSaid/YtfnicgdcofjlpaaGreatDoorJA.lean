/-
 Closed facts of the row of DeskLanes.
-/
import Derived.Test.YtfnicgdcofjlpaaGreatDoorTie
import Derived.Test.YtfnicgdcofjlpaaGreatDoorCards
import Derived.JoinedOf
namespace Go.Proofs.YtfnicgdcofjlpaaGreatDoor.deskLanesProof
set_option linter.all false
theorem xq:(Tryz.prog.mayEnter)=true:=by kernel_rfl
theorem xr:((Rows.deskLanesRow.lifted == Tryz.prog.liftsFinal))=true:=by kernel_rfl
theorem xu:((Tryz.prog.make == some Rows.deskLanesRow.make))=true:=by kernel_rfl
theorem kf1:Tryz.prog.mainIs=some (true,"c1a53523263281832fa2eabf30942e949a48713335f50ab18821587db54428ca".toList):=by kernel_rfl
theorem kf3:false=Rows.deskLanesRow.goesBy Tryz.prog:=by kernel_rfl
end Go.Proofs.YtfnicgdcofjlpaaGreatDoor.deskLanesProof
