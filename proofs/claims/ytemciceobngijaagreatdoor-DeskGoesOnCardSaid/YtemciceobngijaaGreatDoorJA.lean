/-
 Closed facts of the row of DeskGoesOn.
-/
import Derived.Test.YtemciceobngijaaGreatDoorTie
import Derived.Test.YtemciceobngijaaGreatDoorCards
import Derived.JoinedOf
namespace Go.Proofs.YtemciceobngijaaGreatDoor.deskGoesOnProof
set_option linter.all false
theorem xq:(Tryz.prog.mayEnter)=true:=by kernel_rfl
theorem xr:((Rows.deskGoesOnRow.lifted == Tryz.prog.liftsFinal))=true:=by kernel_rfl
theorem xu:((Tryz.prog.make == some Rows.deskGoesOnRow.make))=true:=by kernel_rfl
theorem kf1:Tryz.prog.mainIs=some (true,"8ed9c1c52a5de668558de6259a48a5bba7902749e2b18486a45979581adc8a76".toList):=by kernel_rfl
theorem kf3:false=Rows.deskGoesOnRow.goesBy Tryz.prog:=by kernel_rfl
end Go.Proofs.YtemciceobngijaaGreatDoor.deskGoesOnProof
