/-
  slices.EqualFunc at the program's types. Printed by genlib.py.
-/
import Derived.Test.YtjehdoedfikcdaaLib
namespace Go.Proofs.Ytjehdoedfikcdaa
open Go.RowKit
set_option linter.unusedVariables false
end Go.Proofs.Ytjehdoedfikcdaa
