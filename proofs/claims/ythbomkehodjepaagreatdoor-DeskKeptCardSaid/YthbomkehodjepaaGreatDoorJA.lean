/-
 Closed facts of the row of DeskKept.
-/
import Derived.Test.YthbomkehodjepaaGreatDoorTie
import Derived.Test.YthbomkehodjepaaGreatDoorCards
import Derived.JoinedOf
namespace Go.Proofs.YthbomkehodjepaaGreatDoor.deskKeptProof
set_option linter.all false
theorem xq:(Tryz.prog.mayEnter)=true:=by kernel_rfl
theorem xr:((Rows.deskKeptRow.lifted == Tryz.prog.liftsFinal))=true:=by kernel_rfl
theorem xu:((Tryz.prog.make == some Rows.deskKeptRow.make))=true:=by kernel_rfl
theorem kf1:Tryz.prog.mainIs=some (true,"643ca09192f214a408445d87ccf2d70790a0c733e2e8fe01ecc9b46c63d282c5".toList):=by kernel_rfl
theorem kf3:false=Rows.deskKeptRow.goesBy Tryz.prog:=by kernel_rfl
end Go.Proofs.YthbomkehodjepaaGreatDoor.deskKeptProof
