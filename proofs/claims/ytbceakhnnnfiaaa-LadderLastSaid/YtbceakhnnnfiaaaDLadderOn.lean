/-
  The law LadderOn, typed.
-/
import Derived.Test.YtbceakhnnnfiaaaDef
namespace Go.Proofs.Ytbceakhnnnfiaaa
open Go.Kp
set_option linter.all false
noncomputable section
end
end Go.Proofs.Ytbceakhnnnfiaaa
