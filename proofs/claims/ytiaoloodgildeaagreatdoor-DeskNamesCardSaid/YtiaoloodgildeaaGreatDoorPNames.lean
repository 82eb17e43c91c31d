/-
 The plain part.
-/
import Derived.Test.YtiaoloodgildeaaGreatDoorDDeskNames
import Derived.Test.YtiaoloodgildeaaGreatDoorPA
set_option linter.all false
namespace Go.Proofs.YtiaoloodgildeaaGreatDoor
open Go.Kp
set_option maxRecDepth 100000
theorem names_of {X : Option Bool} (h : X = some true) : (law12Wakes 4000 = X) → law12DeskNames 4000 = some true := by
 intro e
 unfold law12DeskNames
 rw [e, h]
 show _ = some true
 kernel_rfl
theorem names_true : law12DeskNames 4000 = some true := names_of wakes_ok rfl
end Go.Proofs.YtiaoloodgildeaaGreatDoor
