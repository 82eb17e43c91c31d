/-
  The document's first examples, run.
-/
import Derived.Test.YthjafigloabfpaaDef
namespace Go.Proofs.Ythjafigloabfpaa
open Go.Kp
set_option maxRecDepth 100000
theorem wakes_ok : law01Wakes 1000 = some true := by decide +kernel
end Go.Proofs.Ythjafigloabfpaa
