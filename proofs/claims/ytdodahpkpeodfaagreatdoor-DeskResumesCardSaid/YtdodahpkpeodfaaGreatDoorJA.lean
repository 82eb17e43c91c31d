/-
 Closed facts of the row of DeskResumes.
-/
import Derived.Test.YtdodahpkpeodfaaGreatDoorTie
import Derived.Test.YtdodahpkpeodfaaGreatDoorCards
import Derived.JoinedOf
namespace Go.Proofs.YtdodahpkpeodfaaGreatDoor.deskResumesProof
set_option linter.all false
theorem xq:(Tryz.prog.mayEnter)=true:=by kernel_rfl
theorem xr:((Rows.deskResumesRow.lifted == Tryz.prog.liftsFinal))=true:=by kernel_rfl
theorem xu:((Tryz.prog.make == some Rows.deskResumesRow.make))=true:=by kernel_rfl
theorem kf1:Tryz.prog.mainIs=some (true,"2ffcd3cc8198143c6672cb636acfa665281f2eff72f2669f121eef0aebcdf0ba".toList):=by kernel_rfl
theorem kf3:false=Rows.deskResumesRow.goesBy Tryz.prog:=by kernel_rfl
end Go.Proofs.YtdodahpkpeodfaaGreatDoor.deskResumesProof
