/-
  slices.EqualFunc at the program's types. Printed by genlib.py.
-/
import Derived.Test.YtlfblpgkegeaeaaGreatLib
namespace Go.Proofs.YtlfblpgkegeaeaaGreat
open Go.RowKit
set_option linter.unusedVariables false
end Go.Proofs.YtlfblpgkegeaeaaGreat
