/-
 What an argument is, by its type: whatever its shape (numbers, bools, strings, structs, arrays, slices, one in another).
-/
import Derived.Test.YtiaoloodgildeaaGreatDoorBr
set_option linter.all false
namespace Go.Abs
open Go Go.Joins Go.Deep Go.ChangeShapes Go.WideShapes Go.ChangeAt Go.RowKit
section
variable {H : Type} {enc : TypeId × Value → H} {P : Program} {W : World}
end
end Go.Abs
