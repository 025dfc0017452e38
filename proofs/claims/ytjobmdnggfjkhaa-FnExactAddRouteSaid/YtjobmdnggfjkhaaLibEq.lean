/-
  slices.EqualFunc at the program's types. Printed by genlib.py.
-/
import Derived.Test.YtjobmdnggfjkhaaLib
namespace Go.Proofs.Ytjobmdnggfjkhaa
open Go.RowKit
set_option linter.unusedVariables false
end Go.Proofs.Ytjobmdnggfjkhaa
