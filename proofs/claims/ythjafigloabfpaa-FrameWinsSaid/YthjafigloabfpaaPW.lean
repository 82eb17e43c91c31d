/-
  The document's first examples, run.
-/
import Derived.Test.YthjafigloabfpaaDef
namespace Go.Proofs.Ythjafigloabfpaa
open Go.Kp
set_option maxRecDepth 100000
theorem wakes_ok : law01Wakes 2097152 = some true := by decide +kernel
end Go.Proofs.Ythjafigloabfpaa
