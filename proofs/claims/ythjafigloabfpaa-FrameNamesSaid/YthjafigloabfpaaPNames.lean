/-
  The closed statements, run.
-/
import Derived.Test.YthjafigloabfpaaDFrameNames
namespace Go.Proofs.Ythjafigloabfpaa
open Go.Kp
set_option maxRecDepth 100000
theorem wakes_ok : law01Wakes 1000 = some true := by decide +kernel
theorem names_ok : law01FrameNames 1000 = some true := by decide +kernel
end Go.Proofs.Ythjafigloabfpaa
