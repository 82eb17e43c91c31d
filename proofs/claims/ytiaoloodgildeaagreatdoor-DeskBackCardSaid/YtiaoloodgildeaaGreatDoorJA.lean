/-
 Closed facts of the row of DeskBack.
-/
import Derived.Test.YtiaoloodgildeaaGreatDoorTie
import Derived.Test.YtiaoloodgildeaaGreatDoorCards
import Derived.JoinedOf
namespace Go.Proofs.YtiaoloodgildeaaGreatDoor.deskBackProof
set_option linter.all false
theorem xq:(Tryz.prog.mayEnter)=true:=by kernel_rfl
theorem xr:((Rows.deskBackRow.lifted == Tryz.prog.liftsFinal))=true:=by kernel_rfl
theorem xu:((Tryz.prog.make == some Rows.deskBackRow.make))=true:=by kernel_rfl
theorem kf1:Tryz.prog.mainIs=some (true,"8e02db1a5c14be975b12eb7b4e57e9b9ff87c1ffbb3c04d574c48ccb077acf77".toList):=by kernel_rfl
theorem kf3:false=Rows.deskBackRow.goesBy Tryz.prog:=by kernel_rfl
end Go.Proofs.YtiaoloodgildeaaGreatDoor.deskBackProof
