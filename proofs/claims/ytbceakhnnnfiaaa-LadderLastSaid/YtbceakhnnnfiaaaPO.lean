/-
  Proofs of ways: the program's, the document's.
-/
import Derived.Test.YtbceakhnnnfiaaaPN
set_option linter.all false
namespace Go.Proofs.Ytbceakhnnnfiaaa
open Go.Kp
def pa (c : Ref09Cup) (w : List Int) : Nat → Tr → Bool
  | _, [] => true
  | i, _ :: r => decide (poss c i w (w.getD i 0)) && pa c w (i + 1) r
def us (c : Ref09Cup) (w : List Int) : Nat → Tr → Int
  | _, [] => 0
  | i, _ :: r => uR c w i + us c w (i + 1) r
section
variable {N : Nat} (hN : 4000 ≤ N)
include hN
end
end Go.Proofs.Ytbceakhnnnfiaaa
