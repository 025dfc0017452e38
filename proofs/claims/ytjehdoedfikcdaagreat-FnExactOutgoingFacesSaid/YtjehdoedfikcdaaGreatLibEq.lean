/-
  slices.EqualFunc at the program's types. Printed by genlib.py.
-/
import Derived.Test.YtjehdoedfikcdaaGreatLib
namespace Go.Proofs.YtjehdoedfikcdaaGreat
open Go.RowKit
set_option linter.unusedVariables false
end Go.Proofs.YtjehdoedfikcdaaGreat
