/-
 Closed facts of the row of DeskStruck.
-/
import Derived.Test.YtkbeeloccdfomaaGreatDoorTie
import Derived.Test.YtkbeeloccdfomaaGreatDoorCards
import Derived.JoinedOf
namespace Go.Proofs.YtkbeeloccdfomaaGreatDoor.deskStruckProof
set_option linter.all false
theorem xq:(Tryz.prog.mayEnter)=true:=by kernel_rfl
theorem xr:((Rows.deskStruckRow.lifted == Tryz.prog.liftsFinal))=true:=by kernel_rfl
theorem xu:((Tryz.prog.make == some Rows.deskStruckRow.make))=true:=by kernel_rfl
theorem kf1:Tryz.prog.mainIs=some (true,"d20534b04adb3fcb54c891d0475c2765e51317efe529813749efe2445bd0a13a".toList):=by kernel_rfl
theorem kf3:false=Rows.deskStruckRow.goesBy Tryz.prog:=by kernel_rfl
end Go.Proofs.YtkbeeloccdfomaaGreatDoor.deskStruckProof
